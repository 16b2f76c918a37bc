/- The digits of numbers, at this program's numbers: strconv.Itoa by the kit's contract. -/
import Derived.Test.YtbaijbjhkmoidaaGreatDoorShelf
import Derived.Test.YtbaijbjhkmoidaaGreatDoorGeK
import Derived.BigCall
set_option linter.unusedVariables false
set_option linter.unusedSimpArgs false
set_option linter.unusedSectionVars false
namespace Go.Proofs.YtbaijbjhkmoidaaGreatDoor
open Go Go.Ge Go.RowKit
def bD:eg:=λb Q=>b=1/\Q=Fx .u64 Lib.pow10Tab
theorem Oj:Tryz.prog.globalNamed "internal/strconv.uint64pow10"=some 1:=by kernel_rfl
theorem Lu(w:World)(h:mO bD w):Lib.TabIs Tryz.prog w "internal/strconv.uint64pow10" .u64 Lib.pow10Tab:=DR Oj ⟨rfl,rfl⟩ h
theorem yI(n:Int)(a:-9223372036854775808<=n)(b:n<=9223372036854775807)(w:World)(c:Lib.TabIs Tryz.prog w "internal/strconv.uint64pow10" .u64 Lib.pow10Tab) :
  Calls Tryz.prog 76 #[.int .i64 n] w λe w'=>e=.returned (.string ⟨(Lib.itoa n).toArray⟩)/\Below w.heap.size w w':=by
 refine(Tryz.strconv_Itoa n a b w c).mono ?_;rintro e w' ⟨rfl,k,os,rfl⟩;exact⟨rfl,Lib.below_grow _ _ (cU _) _ _⟩
theorem OC(n:Int)(a:-9223372036854775808<=n)(b:n<=9223372036854775807)(w:World)(c:Lib.TabIs Tryz.prog w "internal/strconv.uint64pow10" .u64 Lib.pow10Tab) :
  Calls Tryz.prog 52 #[.int .i64 n] w λe w'=>e=.returned (.string ⟨(Lib.itoa n).toArray⟩)/\Below w.heap.size w w':=by
 go_enter Tryz.func52,Tryz.ntmps52
 go_wp2_with (go_at_call 76;refine(yI n a b _ c).mono ?_;rintro e w' ⟨rfl,d⟩)
 go_ret
 exact⟨rfl,d⟩
end Go.Proofs.YtbaijbjhkmoidaaGreatDoor
