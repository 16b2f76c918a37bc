/- THE LAW DigestNobody HOLDS: it answers true, and leaves its arguments as they are. No condition. -/
import Derived.Test.YtkmbhcglaophaaaHolds
import Derived.Test.YtkmbhcglaophaaaPlB
import Derived.OpenShut
import Derived.JoinedCond
import Derived.JoinedOf
import Derived.Handed
set_option linter.unusedVariables false
set_option linter.unusedSimpArgs false
set_option linter.unusedSectionVars false
namespace Go.Proofs.Ytkmbhcglaophaaa
open Go Go.Ge Go.ChangeShapes Go.WideShapes Go.ChangeAt Go.RowKit
noncomputable instance Ng:Lp:=Lp.Mg
theorem Jh{H:Type}:vZ (H:=H) Rows.uptoBulk Rows.uptoBulkAll where
 lit:=fun l=>by cases l<;>simp[Rows.uptoBulk]
 str:=fun s=>by simp[Rows.uptoBulk]
 nil:=by simp[Rows.uptoBulk]
 slice:=fun e s=>by simp[Rows.uptoBulk]
 agg:=fun p=>by simp[Rows.uptoBulk]
 none:=by simp[Rows.uptoBulkAll]
 cons:=fun d r=>by simp[Rows.uptoBulkAll]
theorem own:ownKnob Try.prog.godebug=none:=by kernel_rfl
theorem laidOut:laidOutB Try.prog=true:=by kernel_rfl
theorem LQ:Try.prog.readableRec 5=true∧5<Try.prog.types.size:=⟨by kernel_rfl,BD (by kernel_rfl)⟩
set_option maxRecDepth 100000 in
theorem contract(H:Type)(enc:TypeId×Value→H)(W:World)(base:Nat)(args:Array Value)(ds gs:List (DataW H))(before:List MemPlace)
  (hval:∀(j:Nat) t v,Try.f4.params[j]?=some t→args[j]?=some v→Value.okWide Try.prog W .any base t v)
  (hW:DataW.Whole enc Try.prog Try.f4.params.toList Rows.digestNobodySpec.vars false W args.toList ds gs before) :
  Calls Try.prog 4 args W fun e W'=>∃v,e=.returned v∧Rows.digestNobodySpec.post enc Try.prog Try.f4 false true false false W args v W':=by
 refine EE (bulk:=Rows.uptoBulk) (all:=Rows.uptoBulkAll) (tb:=4) (A:=(.pair (.int .u8) .unit)) (spec:=en) Jh laidOut (by rw[Try.params4];exact⟨LP 5 (.int .u8) rfl,trivial⟩) (fun t ht=>?_) (by kernel_rfl) Try.underlying4 rfl (fun ds hds=>?_) oe (GV (fun _ _=>False) _) hval hW (fun x hok hx=>?_)
 ·rw[Try.params4] at ht;simp only[zU,List.not_mem_nil,or_false] at ht;subst ht;exact LQ
 ·rw[Try.params4] at hds
  match ds,hds with
  | [d0],_=>rfl
 ·obtain⟨a0,u⟩:=x;exact sy a0
set_option maxRecDepth 100000 in
theorem lifted(os:Os)(started:os.Started)(H:Type)(enc:TypeId×Value→H) :
  ReturnsInHanded {} Try.checked os 4 .any (Rows.digestNobodySpec.pre6 enc Try.prog Try.f4 Rows.digestNobodyRow.domain false) (Rows.digestNobodySpec.post enc Try.prog Try.f4 false true false false):=by
 refine returnsInHanded_of_change own started (by kernel_rfl) Try.func4
  (ChangeSpec.witness6 (enc:=enc) (C:=Try.checked) (s:=Rows.digestNobodySpec) false ⟨#[],#[.int .u8 0],[]⟩ 8 (by kernel_rfl) (by kernel_rfl) (by kernel_rfl)
   (by kernel_rfl)) ?_
 intro W base args ds gs before hval hW _ _;exact contract H enc W base args ds gs before hval hW
theorem over:Rows.digestNobodyRow.holds Try.pinned (OpenSpec.ofChange Rows.digestNobodySpec) :=
 OpenClaim.holds_of_wide 4 Try.f4 rfl rfl rfl rfl rfl rfl rfl ⟨rfl,rfl,rfl,rfl,rfl⟩ rfl rfl rfl rfl rfl (by kernel_rfl) Try.func4 (by kernel_rfl)
  (BD (by kernel_rfl)) (by unfold Func.isWrapper;first|(rw[gd (by decide +kernel)];kernel_rfl)|(rw[cY (by decide +kernel)];exact⟨rfl,rfl⟩))
  (fun os started H enc _=>lifted os started H enc)
theorem digestNobody_holds:Rows.DigestNobodySaid:=over
end Go.Proofs.Ytkmbhcglaophaaa
