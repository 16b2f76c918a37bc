/- THE LAW SwapAsks HOLDS: it answers true, and leaves its arguments as they are. No condition. -/
import Derived.Test.YtkgjcocemmnpjaaDoorHolds
import Derived.Test.YtkgjcocemmnpjaaDoorLaid
import Derived.Test.YtkgjcocemmnpjaaDoorPlA
import Derived.Test.YtkgjcocemmnpjaaDoorCards
import Derived.Test.YtkgjcocemmnpjaaDoorTie
import Derived.Lay
import Derived.Deep.DeepHandedRow
import Derived.SevenTiedAt
import Derived.OpenShut
import Derived.JoinedCond
import Derived.JoinedOf
import Derived.Handed
set_option linter.unusedVariables false
set_option linter.unusedSimpArgs false
set_option linter.unusedSectionVars false
namespace Go.Proofs.YtkgjcocemmnpjaaDoor
open Go Go.Ge Go.ChangeShapes Go.WideShapes Go.ChangeAt Go.RowKit
noncomputable instance J7:Lp:=Lp.Ie
theorem F2{H:Type}:uM (H:=H) Rows.uptoBulk Rows.uptoBulkAll where
 lit:=fun l=>by cases l<;>simp[Rows.uptoBulk]
 str:=fun s=>by simp[Rows.uptoBulk]
 nil:=by simp[Rows.uptoBulk]
 slice:=fun e s=>by simp[Rows.uptoBulk]
 agg:=fun p=>by simp[Rows.uptoBulk]
 none:=by simp[Rows.uptoBulkAll]
 cons:=fun d r=>by simp[Rows.uptoBulkAll]
theorem own:ownKnob Tryd.prog.godebug=none:=by kernel_rfl
theorem laidOut:laidOutB Tryd.prog=true:=by kernel_rfl
theorem IZ:Tryd.prog.readableRec 3=true∧3<Tryd.prog.types.size:=⟨by kernel_rfl,xW (by kernel_rfl)⟩
theorem HH:Tryd.prog.readableRec 53=true∧53<Tryd.prog.types.size:=⟨by kernel_rfl,xW (by kernel_rfl)⟩
theorem HI:Tryd.prog.readableRec 54=true∧54<Tryd.prog.types.size:=⟨by kernel_rfl,xW (by kernel_rfl)⟩
set_option maxRecDepth 100000 in
theorem contract(H:Type)(enc:TypeId×Value→H)(W:World)(base:Nat)(args:Array Value)(ds gs:List (DataW H))(before:List MemPlace)(hG:kK b6 W)
  (hval:∀(j:Nat) t v,Tryd.f5.params[j]?=some t→args[j]?=some v→Value.okWide Tryd.prog W .any base t v)
  (hW:DataW.Whole enc Tryd.prog Tryd.f5.params.toList Rows.swapAsksSpec.vars false W args.toList ds gs before) :
  Calls Tryd.prog 5 args W fun e W'=>∃v,e=.returned v∧Rows.swapAsksSpec.post enc Tryd.prog Tryd.f5 false true false false W args v W':=by
 refine Cv (bulk:=Rows.uptoBulk) (all:=Rows.uptoBulkAll) (tb:=4) (A:=(.pair (.int .i64) (.pair (.arr 3 .str) (.pair (.slice (.pair (.int .i64) (.pair (.int .i64) (.pair .str (.pair (.slice .str) .unit))))) .unit)))) (spec:=fZ) F2 laidOut (by rw[Tryd.params5];exact⟨FY 3 (.int .i64) rfl,FY 53 (.arr 3 .str) rfl,FY 54 (.slice (.pair (.int .i64) (.pair (.int .i64) (.pair .str (.pair (.slice .str) .unit))))) rfl,trivial⟩) (fun t ht=>?_) (by kernel_rfl) Tryd.underlying4 rfl (fun ds hds=>?_) qS hG hval hW (fun x hok hx=>?_)
 ·rw[Tryd.params5] at ht;simp only[wG,List.not_mem_nil,or_false] at ht;rcases ht with rfl|rfl|rfl
  ·exact IZ
  ·exact HH
  ·exact HI
 ·rw[Tryd.params5] at hds
  match ds,hds with
  | [d0,d1,d2],_=>rfl
 ·obtain⟨a0,a1,a2,u⟩:=x;exact xQ a0 a1 a2 hok.2.1.1
noncomputable def Ez(os:Os):World:=World.laidAll Tryd.prog os Rows.swapAsksRow.laid
set_option maxRecDepth 100000 in
theorem EA(os:Os):laidMet Tryd.prog Rows.swapAsksRow.laid ((Ez os).forCall (fun _ _=>0) ⟨#[],#[.int .i64 0,.agg #[.string ⟨#[]⟩,.string ⟨#[]⟩,.string ⟨#[]⟩],.slice none 0 0],[]⟩).memory :=
 laidMet_laidAll #[.int .i64 0,.agg #[.string ⟨#[]⟩,.string ⟨#[]⟩,.string ⟨#[]⟩],.slice none 0 0] (by kernel_rfl) (by kernel_rfl)
set_option maxRecDepth 100000 in
theorem reads(os:Os){H:Type}(enc:TypeId×Value→H):∃places,DataW.whole enc Tryd.prog ((Ez os).forCall (fun _ _=>0) ⟨#[],#[.int .i64 0,.agg #[.string ⟨#[]⟩,.string ⟨#[]⟩,.string ⟨#[]⟩],.slice none 0 0],[]⟩).memory Tryd.f5.params.toList Rows.swapAsksSpec.vars false (#[.int .i64 0,.agg #[.string ⟨#[]⟩,.string ⟨#[]⟩,.string ⟨#[]⟩],.slice none 0 0]:Array Value).toList 12=some ([.lit (.int .i64 0),.agg [.lit (.string []),.lit (.string []),.lit (.string [])],.nil],[],places) :=
 ⟨[],by kernel_rfl⟩
set_option maxRecDepth 100000 in
theorem lifted(os:Os)(started:os.Started)(H:Type)(enc:TypeId×Value→H)(F:Stop.Interp) :
  ReturnsInHanded {} Tryd.checked os 5 .any ((OpenSpec.ofChange Rows.swapAsksSpec).preRow enc Tryd.prog Tryd.f5 Rows.swapAsksRow.domain false Rows.swapAsksRow.laid) (((OpenSpec.ofChange Rows.swapAsksSpec).at F).post enc Tryd.prog Tryd.f5 false true false false):=by
 obtain⟨places,hx⟩:=reads os enc;refine returnsInHanded_of_row (C:=Tryd.checked) (s:=(OpenSpec.ofChange Rows.swapAsksSpec)) own started (by kernel_rfl) Tryd.func5
  (witness_row_at (enc:=enc) (C:=Tryd.checked) false (Ez os) #[.int .i64 0,.agg #[.string ⟨#[]⟩,.string ⟨#[]⟩,.string ⟨#[]⟩],.slice none 0 0] (World.laidAll_os _ _ _) (by kernel_rfl) (by kernel_rfl) (by kernel_rfl)
   (OpenSpec.preRow_of_cond 12 hx (by kernel_rfl) (fun k hk=>by cases hk) (by kernel_rfl) (EA os))) ?_
 intro W base args ds gs before hval hW _ KK _ hL _ _;exact contract H enc W base args ds gs before (CH hL) hval hW
theorem HJ{a b:Bool}(h:a=true)(k:b=true):(a&&b)=true:=by rw[h,k];rfl
set_option maxHeartbeats 20000000 in
theorem said:Rows.SwapAsksSaid :=
 OpenClaim.holds_of_cond 5 Tryd.f5 rfl rfl rfl rfl rfl rfl rfl ⟨rfl,rfl,rfl,rfl,rfl⟩ rfl rfl rfl rfl rfl (by kernel_rfl) Tryd.func5 (by unfold joinedFacts;(repeat' with_reducible refine HJ ?_ ?_)<;>as_aux_lemma=>kernel_rfl)
  (xW (by kernel_rfl)) (by unfold Func.isWrapper;first|(rw[fF (by decide +kernel)];kernel_rfl)|(rw[dW (by decide +kernel)];exact⟨rfl,rfl⟩))
  (fun os started H enc _ F=>by rw[OpenClaim.pre_eq_preRow];exact lifted os started H enc F)
theorem EB(f:FuncId)(fn:Func)(hf:Tryd.pinned.checked.prog.funcNamed "cooperage/cooperagelaw27.SwapAsks"=some f)(hfn:Tryd.pinned.checked.prog.funcs[f]?=some fn) :
  false=Tryd.pinned.checked.prog.looks []∧∀(j:Nat) t,fn.params[j]?=some t→Tryd.pinned.checked.prog.wantsStandIn t=false:=by
 obtain rfl:f=5:=aq ((show Tryd.prog.funcNamed "cooperage/cooperagelaw27.SwapAsks"=some 5 by kernel_rfl).symm.trans hf) |>.symm;obtain rfl:fn=Tryd.f5:=(aq (Tryd.func5.symm.trans hfn)).symm;refine⟨by kernel_rfl,fun j t ht=>?_⟩;have hm:t∈Tryd.f5.params.toList:=by simpa using GO ht
 rw[Tryd.params5] at hm;simp only[wG,List.not_mem_nil,or_false] at hm;rcases hm with rfl|rfl|rfl
 ·exact(show Tryd.prog.wantsStandIn 3=false by kernel_rfl)
 ·exact(show Tryd.prog.wantsStandIn 53=false by kernel_rfl)
 ·exact(show Tryd.prog.wantsStandIn 54=false by kernel_rfl)
theorem swapAsks_holds:Rows.SwapAsksCardSaid :=
 Claim7.holds_tied_plain_at .later [] _ _ _ _ said (fun _ h=>by cases h) (by kernel_rfl) (fun _ h=>by cases h) swapAsks_row_tie rfl ⟨rfl,rfl⟩ (by kernel_rfl) rfl EB (by kernel_rfl)
end Go.Proofs.YtkgjcocemmnpjaaDoor
