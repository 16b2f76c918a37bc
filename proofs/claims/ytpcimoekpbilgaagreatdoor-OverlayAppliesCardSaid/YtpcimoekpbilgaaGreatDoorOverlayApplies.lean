/- THE LAW OverlayApplies HOLDS: it answers true, and leaves its arguments as they are. No condition. -/
import Derived.Test.YtpcimoekpbilgaaGreatDoorHolds
import Derived.Test.YtpcimoekpbilgaaGreatDoorPlE
import Derived.Test.YtpcimoekpbilgaaGreatDoorCards
import Derived.Test.YtpcimoekpbilgaaGreatDoorTie
import Derived.Lay
import Derived.Deep.DeepHandedRow
import Derived.SevenTiedAt
import Derived.OpenShut
import Derived.JoinedCond
import Derived.JoinedOf
import Derived.Handed
namespace Go.Proofs.YtpcimoekpbilgaaGreatDoor
open Go Go.Ge Go.ChangeShapes Go.WideShapes Go.ChangeAt Go.RowKit
set_option linter.unusedVariables false
set_option linter.unusedSimpArgs false

theorem bulk_ok {H:Type}:BulkOk (H:=H) Rows.uptoBulk Rows.uptoBulkAll where
 lit:=fun l=>by cases l <;> simp [Rows.uptoBulk]
 str:=fun s=>by simp [Rows.uptoBulk]
 nil:=by simp [Rows.uptoBulk]
 slice:=fun e s=>by simp [Rows.uptoBulk]
 agg:=fun p=>by simp [Rows.uptoBulk]
 none:=by simp [Rows.uptoBulkAll]
 cons:=fun d r=>by simp [Rows.uptoBulkAll]

theorem own:ownKnob Tryz.prog.godebug=none:=by kernel_rfl
theorem laidOut:laidOutB Tryz.prog=true:=by kernel_rfl
theorem read9:Tryz.prog.readableRec 9=true∧9 < Tryz.prog.types.size:=⟨by kernel_rfl,of_decide_eq_true (by kernel_rfl)⟩
theorem read22:Tryz.prog.readableRec 22=true∧22 < Tryz.prog.types.size:=⟨by kernel_rfl,of_decide_eq_true (by kernel_rfl)⟩

set_option maxRecDepth 100000 in
theorem contract (H:Type) (enc:TypeId×Value→H) (W:World) (base:Nat) (args:Array Value) (ds gs:List (DataW H)) (before:List MemPlace)
  (hval:∀ (j:Nat) t v,Tryz.f5.params[j]? = some t→args[j]? = some v→Value.okWide Tryz.prog W .any base t v)
  (hW:DataW.Whole enc Tryz.prog Tryz.f5.params.toList Rows.overlayAppliesSpec.vars false W args.toList ds gs before) :
  Calls Tryz.prog 5 args W fun e W'=>∃ v,e = .returned v∧Rows.overlayAppliesSpec.post enc Tryz.prog Tryz.f5 false true false false W args v W':=by
 refine law_calls (bulk:=Rows.uptoBulk) (all:=Rows.uptoBulkAll) (tb:=4) (A:=(.pair (.slice (.pair .str (.pair (.int .i64) (.pair (.int .i64) (.pair .str (.pair .str .unit)))))) (.pair .str .unit))) (spec:=P_law15_OverlayApplies) bulk_ok laidOut (by rw [Tryz.params5];exact ⟨T_ok 22 (.slice (.pair .str (.pair (.int .i64) (.pair (.int .i64) (.pair .str (.pair .str .unit)))))) rfl,T_ok 9 .str rfl,trivial⟩) (fun t ht=>?_) (by kernel_rfl) Tryz.underlying4 rfl (fun ds hds=>?_) h_law15_OverlayApplies (noGlobOk (fun _ _=>False) _) hval hW (fun x hok hx=>?_)
 ·rw [Tryz.params5] at ht
  simp only [List.mem_cons,List.not_mem_nil,or_false] at ht
  rcases ht with rfl | rfl
  ·exact read22
  ·exact read9
 ·rw [Tryz.params5] at hds
  match ds,hds with
  | [d0,d1],_=>rfl
 ·obtain ⟨a0,a1,u⟩:=x
  exact overlayApplies_val a0 a1

/-- The tables lie in the witness's world as the row tells them. -/
noncomputable def laidW (os:Os):World:=World.laidAll Tryz.prog os Rows.overlayAppliesRow.laid
set_option maxRecDepth 100000 in
theorem laid_met (os:Os):laidMet Tryz.prog Rows.overlayAppliesRow.laid ((laidW os).forCall (fun _ _=>0) ⟨#[],#[.slice none 0 0,.string ⟨#[]⟩],[]⟩).memory :=
 laidMet_laidAll #[.slice none 0 0,.string ⟨#[]⟩] (by kernel_rfl) (by kernel_rfl)
set_option maxRecDepth 100000 in
theorem reads (os:Os) {H:Type} (enc:TypeId×Value→H):∃ places,DataW.whole enc Tryz.prog ((laidW os).forCall (fun _ _=>0) ⟨#[],#[.slice none 0 0,.string ⟨#[]⟩],[]⟩).memory Tryz.f5.params.toList Rows.overlayAppliesSpec.vars false (#[.slice none 0 0,.string ⟨#[]⟩]:Array Value).toList 12=some ([.nil,.lit (.string [])],[],places) :=
 ⟨[],by kernel_rfl⟩

set_option maxRecDepth 100000 in
theorem lifted (os:Os) (started:os.Started) (H:Type) (enc:TypeId×Value→H) (F:Stop.Interp) :
  ReturnsInHanded {} Tryz.checked os 5 .any ((OpenSpec.ofChange Rows.overlayAppliesSpec).preRow enc Tryz.prog Tryz.f5 Rows.overlayAppliesRow.domain false Rows.overlayAppliesRow.laid) (((OpenSpec.ofChange Rows.overlayAppliesSpec).at F).post enc Tryz.prog Tryz.f5 false true false false):=by
 obtain ⟨places,hx⟩:=reads os enc
 refine returnsInHanded_of_row (C:=Tryz.checked) (s:=(OpenSpec.ofChange Rows.overlayAppliesSpec)) own started (by kernel_rfl) Tryz.func5
  (witness_row_at (enc:=enc) (C:=Tryz.checked) false (laidW os) #[.slice none 0 0,.string ⟨#[]⟩] (World.laidAll_os _ _ _) (by kernel_rfl) (by kernel_rfl) (by kernel_rfl)
   (OpenSpec.preRow_of_cond 12 hx (by kernel_rfl) (fun k hk=>by cases hk) (by kernel_rfl) (laid_met os))) ?_
 intro W base args ds gs before hval hW _ hcond _ hL _ _
 exact contract H enc W base args ds gs before hval hW

theorem said:Rows.OverlayAppliesSaid :=
 OpenClaim.holds_of_cond 5 Tryz.f5 rfl rfl rfl rfl rfl rfl rfl ⟨rfl,rfl,rfl,rfl,rfl⟩ rfl rfl rfl rfl rfl (by kernel_rfl) Tryz.func5 (by kernel_rfl)
  (of_decide_eq_true (by kernel_rfl)) (by unfold Func.isWrapper;first | (rw [if_pos (by decide +kernel)];kernel_rfl) | (rw [if_neg (by decide +kernel)];exact ⟨rfl,rfl⟩))
  (fun os started H enc _ F=>by rw [OpenClaim.pre_eq_preRow];exact lifted os started H enc F)

theorem plainRow (f : FuncId) (fn : Func) (hf : Tryz.pinned.checked.prog.funcNamed "cooperage/cooperagelaw15.OverlayApplies" = some f) (hfn : Tryz.pinned.checked.prog.funcs[f]? = some fn) :
  false=Tryz.pinned.checked.prog.looks []∧∀ (j:Nat) t,fn.params[j]? = some t→Tryz.pinned.checked.prog.wantsStandIn t=false:=by
 obtain rfl : f = 5 := Option.some.inj ((show Tryz.prog.funcNamed "cooperage/cooperagelaw15.OverlayApplies" = some 5 by kernel_rfl).symm.trans hf) |>.symm
 obtain rfl:fn=Tryz.f5:=(Option.some.inj (Tryz.func5.symm.trans hfn)).symm
 refine ⟨by kernel_rfl,fun j t ht=>?_⟩
 have hm:t ∈ Tryz.f5.params.toList:=by simpa using Array.mem_of_getElem? ht
 rw [Tryz.params5] at hm
 simp only [List.mem_cons,List.not_mem_nil,or_false] at hm
 rcases hm with rfl | rfl
 ·exact (show Tryz.prog.wantsStandIn 22=false by kernel_rfl)
 ·exact (show Tryz.prog.wantsStandIn 9=false by kernel_rfl)

theorem overlayApplies_holds:Rows.OverlayAppliesCardSaid :=
 Claim7.holds_tied_plain_at .later [] _ _ _ _ said (fun _ h=>by cases h) (by kernel_rfl) (fun _ h=>by cases h) overlayApplies_row_tie rfl ⟨rfl,rfl⟩ (by kernel_rfl) rfl plainRow (by kernel_rfl)
end Go.Proofs.YtpcimoekpbilgaaGreatDoor
