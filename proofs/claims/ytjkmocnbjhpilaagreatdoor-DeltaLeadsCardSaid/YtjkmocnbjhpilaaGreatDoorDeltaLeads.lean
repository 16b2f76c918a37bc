/- THE LAW DeltaLeads HOLDS: it answers true, and leaves its arguments as they are. No condition. -/
import Derived.Test.YtjkmocnbjhpilaaGreatDoorHolds
import Derived.Test.YtjkmocnbjhpilaaGreatDoorPlE
import Derived.Test.YtjkmocnbjhpilaaGreatDoorCards
import Derived.Test.YtjkmocnbjhpilaaGreatDoorTie
import Derived.Lay
import Derived.Deep.DeepHandedRow
import Derived.SevenTiedAt
import Derived.OpenShut
import Derived.JoinedCond
import Derived.JoinedOf
import Derived.Handed
namespace Go.Proofs.YtjkmocnbjhpilaaGreatDoor
open Go Go.Ge Go.ChangeShapes Go.WideShapes Go.ChangeAt Go.RowKit
set_option linter.unusedVariables false
set_option linter.unusedSimpArgs false
theorem T7{H:Type}:E1 (H:=H) Rows.uptoBulk Rows.uptoBulkAll where
 lit:=fun l=>by cases l<;>simp[Rows.uptoBulk]
 str:=fun s=>by simp[Rows.uptoBulk]
 nil:=by simp[Rows.uptoBulk]
 slice:=fun e s=>by simp[Rows.uptoBulk]
 agg:=fun p=>by simp[Rows.uptoBulk]
 none:=by simp[Rows.uptoBulkAll]
 cons:=fun d r=>by simp[Rows.uptoBulkAll]
theorem own:ownKnob Tryz.prog.godebug=none:=by kernel_rfl
theorem laidOut:laidOutB Tryz.prog=true:=by kernel_rfl
theorem SF:Tryz.prog.readableRec 22=true∧22<Tryz.prog.types.size:=⟨by kernel_rfl,of_decide_eq_true (by kernel_rfl)⟩
set_option maxRecDepth 100000 in
theorem contract(H:Type)(enc:TypeId×Value→H)(W:World)(base:Nat)(args:Array Value)(ds gs:List (DataW H))(before:List MemPlace)
  (hval:∀(j:Nat) t v,Tryz.f3.params[j]?=some t→args[j]?=some v→Value.okWide Tryz.prog W .any base t v)
  (hW:DataW.Whole enc Tryz.prog Tryz.f3.params.toList Rows.deltaLeadsSpec.vars false W args.toList ds gs before) :
  Calls Tryz.prog 3 args W fun e W'=>∃v,e=.returned v∧Rows.deltaLeadsSpec.post enc Tryz.prog Tryz.f3 false true false false W args v W':=by
 refine Pf (bulk:=Rows.uptoBulk) (all:=Rows.uptoBulkAll) (tb:=4) (A:=(.pair (.slice (.pair .str (.pair (.int .i64) (.pair (.int .i64) (.pair .str (.pair .str .unit)))))) (.pair (.slice (.pair .str (.pair (.int .i64) (.pair (.int .i64) (.pair .str (.pair .str .unit)))))) .unit))) (spec:=jg) T7 laidOut (by rw[Tryz.params3];exact⟨NW 22 (.slice (.pair .str (.pair (.int .i64) (.pair (.int .i64) (.pair .str (.pair .str .unit)))))) rfl,NW 22 (.slice (.pair .str (.pair (.int .i64) (.pair (.int .i64) (.pair .str (.pair .str .unit)))))) rfl,trivial⟩) (fun t ht=>?_) (by kernel_rfl) Tryz.underlying4 rfl (fun ds hds=>?_) zM (Rq (fun _ _=>False) _) hval hW (fun x hok hx=>?_)
 ·rw[Tryz.params3] at ht
  simp only[List.mem_cons,List.not_mem_nil,or_false] at ht
  rcases ht with rfl|rfl
  ·exact SF
  ·exact SF
 ·rw[Tryz.params3] at hds
  match ds,hds with
  | [d0,d1],_=>rfl
 ·obtain⟨a0,a1,u⟩:=x
  exact FW a0 a1
noncomputable def SG(os:Os):World:=World.laidAll Tryz.prog os Rows.deltaLeadsRow.laid
set_option maxRecDepth 100000 in
theorem SH(os:Os):laidMet Tryz.prog Rows.deltaLeadsRow.laid ((SG os).forCall (fun _ _=>0) ⟨#[],#[.slice none 0 0,.slice none 0 0],[]⟩).memory :=
 laidMet_laidAll #[.slice none 0 0,.slice none 0 0] (by kernel_rfl) (by kernel_rfl)
set_option maxRecDepth 100000 in
theorem reads(os:Os){H:Type}(enc:TypeId×Value→H):∃places,DataW.whole enc Tryz.prog ((SG os).forCall (fun _ _=>0) ⟨#[],#[.slice none 0 0,.slice none 0 0],[]⟩).memory Tryz.f3.params.toList Rows.deltaLeadsSpec.vars false (#[.slice none 0 0,.slice none 0 0]:Array Value).toList 12=some ([.nil,.nil],[],places) :=
 ⟨[],by kernel_rfl⟩
set_option maxRecDepth 100000 in
theorem lifted(os:Os)(started:os.Started)(H:Type)(enc:TypeId×Value→H)(F:Stop.Interp) :
  ReturnsInHanded {} Tryz.checked os 3 .any ((OpenSpec.ofChange Rows.deltaLeadsSpec).preRow enc Tryz.prog Tryz.f3 Rows.deltaLeadsRow.domain false Rows.deltaLeadsRow.laid) (((OpenSpec.ofChange Rows.deltaLeadsSpec).at F).post enc Tryz.prog Tryz.f3 false true false false):=by
 obtain⟨places,hx⟩:=reads os enc
 refine returnsInHanded_of_row (C:=Tryz.checked) (s:=(OpenSpec.ofChange Rows.deltaLeadsSpec)) own started (by kernel_rfl) Tryz.func3
  (witness_row_at (enc:=enc) (C:=Tryz.checked) false (SG os) #[.slice none 0 0,.slice none 0 0] (World.laidAll_os _ _ _) (by kernel_rfl) (by kernel_rfl) (by kernel_rfl)
   (OpenSpec.preRow_of_cond 12 hx (by kernel_rfl) (fun k hk=>by cases hk) (by kernel_rfl) (SH os))) ?_
 intro W base args ds gs before hval hW _ On _ hL _ _
 exact contract H enc W base args ds gs before hval hW
theorem said:Rows.DeltaLeadsSaid :=
 OpenClaim.holds_of_cond 3 Tryz.f3 rfl rfl rfl rfl rfl rfl rfl ⟨rfl,rfl,rfl,rfl,rfl⟩ rfl rfl rfl rfl rfl (by kernel_rfl) Tryz.func3 (by kernel_rfl)
  (of_decide_eq_true (by kernel_rfl)) (by unfold Func.isWrapper;first|(rw[if_pos (by decide +kernel)];kernel_rfl)|(rw[if_neg (by decide +kernel)];exact⟨rfl,rfl⟩))
  (fun os started H enc _ F=>by rw[OpenClaim.pre_eq_preRow];exact lifted os started H enc F)
theorem SI(f:FuncId)(fn:Func)(hf:Tryz.pinned.checked.prog.funcNamed "cooperage/cooperagelaw16.DeltaLeads"=some f)(hfn:Tryz.pinned.checked.prog.funcs[f]?=some fn) :
  false=Tryz.pinned.checked.prog.looks []∧∀(j:Nat) t,fn.params[j]?=some t→Tryz.pinned.checked.prog.wantsStandIn t=false:=by
 obtain rfl:f=3:=Option.some.inj ((show Tryz.prog.funcNamed "cooperage/cooperagelaw16.DeltaLeads"=some 3 by kernel_rfl).symm.trans hf) |>.symm
 obtain rfl:fn=Tryz.f3:=(Option.some.inj (Tryz.func3.symm.trans hfn)).symm
 refine⟨by kernel_rfl,fun j t ht=>?_⟩
 have hm:t∈Tryz.f3.params.toList:=by simpa using Array.mem_of_getElem? ht
 rw[Tryz.params3] at hm
 simp only[List.mem_cons,List.not_mem_nil,or_false] at hm
 rcases hm with rfl|rfl
 ·exact(show Tryz.prog.wantsStandIn 22=false by kernel_rfl)
 ·exact(show Tryz.prog.wantsStandIn 22=false by kernel_rfl)
theorem deltaLeads_holds:Rows.DeltaLeadsCardSaid :=
 Claim7.holds_tied_plain_at .later [] _ _ _ _ said (fun _ h=>by cases h) (by kernel_rfl) (fun _ h=>by cases h) deltaLeads_row_tie rfl ⟨rfl,rfl⟩ (by kernel_rfl) rfl SI (by kernel_rfl)
end Go.Proofs.YtjkmocnbjhpilaaGreatDoor
