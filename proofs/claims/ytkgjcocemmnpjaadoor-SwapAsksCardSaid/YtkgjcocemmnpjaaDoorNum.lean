/- The digits of numbers, at this program's numbers: strconv.Itoa by the kit's contract. -/
import Derived.Test.YtkgjcocemmnpjaaDoorShelf
import Derived.Test.YtkgjcocemmnpjaaDoorGeK
import Derived.WalkKit
import Derived.BigCall
set_option linter.unusedVariables false
set_option linter.unusedSimpArgs false
set_option linter.unusedSectionVars false
namespace Go.Proofs.YtkgjcocemmnpjaaDoor
open Go Go.Ge Go.RowKit
def b6:eM:=fun b Q=>b=0∧Q=A8 .u64 Lib.pow10Tab
theorem HE:Tryd.prog.globalNamed "internal/strconv.uint64pow10"=some 0:=by kernel_rfl
theorem Eu(w:World)(h:kK b6 w):Lib.TabIs Tryd.prog w "internal/strconv.uint64pow10" .u64 Lib.pow10Tab:=zz HE ⟨rfl,rfl⟩ h
theorem uU(n:Int)(h0:-9223372036854775808≤n)(h1:n≤9223372036854775807)(w:World)(ht:Lib.TabIs Tryd.prog w "internal/strconv.uint64pow10" .u64 Lib.pow10Tab) :
  Calls Tryd.prog 49 #[.int .i64 n] w fun e w'=>e=.returned (.string ⟨(Lib.itoa n).toArray⟩)∧Below w.heap.size w w':=by
 refine(Tryd.strconv_Itoa n h0 h1 w ht).mono ?_;rintro e w' ⟨rfl,k,os,rfl⟩;exact⟨rfl,Lib.below_grow _ _ (en _) _ _⟩
theorem HZ(n:Int)(h0:-9223372036854775808≤n)(h1:n≤9223372036854775807)(w:World)(ht:Lib.TabIs Tryd.prog w "internal/strconv.uint64pow10" .u64 Lib.pow10Tab) :
  Calls Tryd.prog 25 #[.int .i64 n] w fun e w'=>e=.returned (.string ⟨(Lib.itoa n).toArray⟩)∧Below w.heap.size w w':=by
 go_enter Tryd.func25,Tryd.ntmps25
 go_wp2_with (go_at_call 49;refine(uU n h0 h1 _ ht).mono ?_;rintro e w' ⟨rfl,hw⟩)
 go_ret
 exact⟨rfl,hw⟩
end Go.Proofs.YtkgjcocemmnpjaaDoor
