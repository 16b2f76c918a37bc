/- THE LAW PoolAsks HOLDS: it answers true, and leaves its arguments as they are. No condition. -/
import Derived.Test.YtbaijbjhkmoidaaGreatDoorHolds
import Derived.Test.YtbaijbjhkmoidaaGreatDoorLaid
import Derived.Test.YtbaijbjhkmoidaaGreatDoorPlC
import Derived.Test.YtbaijbjhkmoidaaGreatDoorCards
import Derived.Test.YtbaijbjhkmoidaaGreatDoorTie
import Derived.Lay
import Derived.Deep.DeepHandedRow
import Derived.SevenTiedAt
import Derived.OpenShut
import Derived.JoinedCond
import Derived.JoinedOf
import Derived.Handed
set_option linter.unusedVariables false
set_option linter.unusedSimpArgs false
set_option linter.unusedSectionVars false
namespace Go.Proofs.YtbaijbjhkmoidaaGreatDoor
open Go Go.Ge Go.ChangeShapes Go.WideShapes Go.ChangeAt Go.RowKit
noncomputable instance Th:Lp:=Lp.O9
theorem On{H:Type}:AD (H:=H) Rows.uptoBulk Rows.uptoBulkAll where
 lit:=fun l=>by cases l<;>simp[Rows.uptoBulk]
 str:=fun s=>by simp[Rows.uptoBulk]
 nil:=by simp[Rows.uptoBulk]
 slice:=fun e s=>by simp[Rows.uptoBulk]
 agg:=fun p=>by simp[Rows.uptoBulk]
 none:=by simp[Rows.uptoBulkAll]
 cons:=fun d r=>by simp[Rows.uptoBulkAll]
theorem own:ownKnob Tryz.prog.godebug=none:=by kernel_rfl
theorem laidOut:laidOutB Tryz.prog=true:=by kernel_rfl
theorem Rs:Tryz.prog.readableRec 9=true∧9<Tryz.prog.types.size:=⟨by kernel_rfl,wq (by kernel_rfl)⟩
theorem P8:Tryz.prog.readableRec 22=true∧22<Tryz.prog.types.size:=⟨by kernel_rfl,wq (by kernel_rfl)⟩
theorem P9:Tryz.prog.readableRec 23=true∧23<Tryz.prog.types.size:=⟨by kernel_rfl,wq (by kernel_rfl)⟩
set_option maxRecDepth 100000 in
theorem contract(H:Type)(enc:TypeId×Value→H)(W:World)(base:Nat)(args:Array Value)(ds gs:List (DataW H))(before:List MemPlace)(hG:nQ bG W)
  (hval:∀(j:Nat) t v,Tryz.f3.params[j]?=some t→args[j]?=some v→Value.okWide Tryz.prog W .any base t v)
  (hW:DataW.Whole enc Tryz.prog Tryz.f3.params.toList Rows.poolAsksSpec.vars false W args.toList ds gs before) :
  Calls Tryz.prog 3 args W fun e W'=>∃v,e=.returned v∧Rows.poolAsksSpec.post enc Tryz.prog Tryz.f3 false true false false W args v W':=by
 refine Jz (bulk:=Rows.uptoBulk) (all:=Rows.uptoBulkAll) (tb:=4) (A:=(.pair (.slice (.pair .str (.pair .str (.pair (.slice .str) (.pair .str (.pair (.int .i64) (.pair (.int .i64) (.pair .bool .unit)))))))) (.pair .str (.pair (.slice (.pair (.int .i64) (.pair (.int .i64) (.pair .str (.pair (.slice .str) .unit))))) .unit)))) (spec:=jg) On laidOut (by rw[Tryz.params3];exact⟨MP 22 (.slice (.pair .str (.pair .str (.pair (.slice .str) (.pair .str (.pair (.int .i64) (.pair (.int .i64) (.pair .bool .unit)))))))) rfl,MP 9 .str rfl,MP 23 (.slice (.pair (.int .i64) (.pair (.int .i64) (.pair .str (.pair (.slice .str) .unit))))) rfl,trivial⟩) (fun t ht=>?_) (by kernel_rfl) Tryz.underlying4 rfl (fun ds hds=>?_) xz hG hval hW (fun x hok hx=>?_)
 ·rw[Tryz.params3] at ht;simp only[CH,List.not_mem_nil,or_false] at ht;rcases ht with rfl|rfl|rfl
  ·exact P8
  ·exact Rs
  ·exact P9
 ·rw[Tryz.params3] at hds
  match ds,hds with
  | [d0,d1,d2],_=>rfl
 ·obtain⟨a0,a1,a2,u⟩:=x;exact DV a0 a1 a2 (fun i x hx=>(hok.1 i x hx).2.2.2.2.2.1)
noncomputable def MV(os:Os):World:=World.laidAll Tryz.prog os Rows.poolAsksRow.laid
set_option maxRecDepth 100000 in
theorem MW(os:Os):laidMet Tryz.prog Rows.poolAsksRow.laid ((MV os).forCall (fun _ _=>0) ⟨#[],#[.slice none 0 0,.string ⟨#[]⟩,.slice none 0 0],[]⟩).memory :=
 laidMet_laidAll #[.slice none 0 0,.string ⟨#[]⟩,.slice none 0 0] (by kernel_rfl) (by kernel_rfl)
set_option maxRecDepth 100000 in
theorem reads(os:Os){H:Type}(enc:TypeId×Value→H):∃places,DataW.whole enc Tryz.prog ((MV os).forCall (fun _ _=>0) ⟨#[],#[.slice none 0 0,.string ⟨#[]⟩,.slice none 0 0],[]⟩).memory Tryz.f3.params.toList Rows.poolAsksSpec.vars false (#[.slice none 0 0,.string ⟨#[]⟩,.slice none 0 0]:Array Value).toList 12=some ([.nil,.lit (.string []),.nil],[],places) :=
 ⟨[],by kernel_rfl⟩
set_option maxRecDepth 100000 in
theorem lifted(os:Os)(started:os.Started)(H:Type)(enc:TypeId×Value→H)(F:Stop.Interp) :
  ReturnsInHanded {} Tryz.checked os 3 .any ((OpenSpec.ofChange Rows.poolAsksSpec).preRow enc Tryz.prog Tryz.f3 Rows.poolAsksRow.domain false Rows.poolAsksRow.laid) (((OpenSpec.ofChange Rows.poolAsksSpec).at F).post enc Tryz.prog Tryz.f3 false true false false):=by
 obtain⟨places,hx⟩:=reads os enc;refine returnsInHanded_of_row (C:=Tryz.checked) (s:=(OpenSpec.ofChange Rows.poolAsksSpec)) own started (by kernel_rfl) Tryz.func3
  (witness_row_at (enc:=enc) (C:=Tryz.checked) false (MV os) #[.slice none 0 0,.string ⟨#[]⟩,.slice none 0 0] (World.laidAll_os _ _ _) (by kernel_rfl) (by kernel_rfl) (by kernel_rfl)
   (OpenSpec.preRow_of_cond 12 hx (by kernel_rfl) (fun k hk=>by cases hk) (by kernel_rfl) (MW os))) ?_
 intro W base args ds gs before hval hW _ T0 _ hL _ _;exact contract H enc W base args ds gs before (J9 hL) hval hW
theorem Qa{a b:Bool}(h:a=true)(k:b=true):(a&&b)=true:=by rw[h,k];rfl
set_option maxHeartbeats 20000000 in
theorem said:Rows.PoolAsksSaid :=
 OpenClaim.holds_of_cond 3 Tryz.f3 rfl rfl rfl rfl rfl rfl rfl ⟨rfl,rfl,rfl,rfl,rfl⟩ rfl rfl rfl rfl rfl (by kernel_rfl) Tryz.func3 (by unfold joinedFacts;(repeat' with_reducible refine Qa ?_ ?_)<;>as_aux_lemma=>kernel_rfl)
  (wq (by kernel_rfl)) (by unfold Func.isWrapper;first|(rw[ek (by decide +kernel)];kernel_rfl)|(rw[cT (by decide +kernel)];exact⟨rfl,rfl⟩))
  (fun os started H enc _ F=>by rw[OpenClaim.pre_eq_preRow];exact lifted os started H enc F)
theorem MX(f:FuncId)(fn:Func)(hf:Tryz.pinned.checked.prog.funcNamed "cooperage/cooperagelaw30.PoolAsks"=some f)(hfn:Tryz.pinned.checked.prog.funcs[f]?=some fn) :
  false=Tryz.pinned.checked.prog.looks []∧∀(j:Nat) t,fn.params[j]?=some t→Tryz.pinned.checked.prog.wantsStandIn t=false:=by
 obtain rfl:f=3:=ax ((show Tryz.prog.funcNamed "cooperage/cooperagelaw30.PoolAsks"=some 3 by kernel_rfl).symm.trans hf) |>.symm;obtain rfl:fn=Tryz.f3:=(ax (Tryz.func3.symm.trans hfn)).symm;refine⟨by kernel_rfl,fun j t ht=>?_⟩;have hm:t∈Tryz.f3.params.toList:=by simpa using KE ht
 rw[Tryz.params3] at hm;simp only[CH,List.not_mem_nil,or_false] at hm;rcases hm with rfl|rfl|rfl
 ·exact(show Tryz.prog.wantsStandIn 22=false by kernel_rfl)
 ·exact(show Tryz.prog.wantsStandIn 9=false by kernel_rfl)
 ·exact(show Tryz.prog.wantsStandIn 23=false by kernel_rfl)
theorem poolAsks_holds:Rows.PoolAsksCardSaid :=
 Claim7.holds_tied_plain_at .later [] _ _ _ _ said (fun _ h=>by cases h) (by kernel_rfl) (fun _ h=>by cases h) poolAsks_row_tie rfl ⟨rfl,rfl⟩ (by kernel_rfl) rfl MX (by kernel_rfl)
end Go.Proofs.YtbaijbjhkmoidaaGreatDoor
