/- strings.Builder's copyCheck and String, taken as a whole, do what the ghost interpreter takes them to do. -/
import Derived.Test.YtjkmocnbjhpilaaGreatDoorRows
import Derived.Test.YtjkmocnbjhpilaaGreatDoorGeI
import Derived.Shelf.RegionOpenPlain
import Derived.Lib.Walk
import Derived.Lib.Builder
import Derived.Lib.UnsafeStr
import Derived.WalkKit
import Derived.Laws.Externs
namespace Go.Proofs.YtjkmocnbjhpilaaGreatDoor
open Go Go.Ge Go.Shelf Go.RowKit Go.Lib
set_option linter.unusedVariables false
theorem JG:Tryz.prog.follows .mixedOrders=true:=by kernel_rfl
theorem OL:∃j,Tryz.prog.info? 89=some j∧j.size=2:=Option.map_eq_some_iff.1 (show(Tryz.prog.info? 89).map (·.size)=some 2 by kernel_rfl)
set_option maxHeartbeats 1000000 in
set_option maxRecDepth 100000 in
theorem SB(b:Nat)(w:World)(h0:w.cell? ⟨b,0,none⟩=some (.pointer (some ⟨b,0,none⟩))) :
  Calls Tryz.prog 69 #[.pointer (some ⟨b,0,none⟩)] w fun e w'=>e=.returned (.tuple #[])∧w'=w:=by
 obtain⟨j,hj,SO⟩:=OL
 go_enter Tryz.func69,Tryz.ntmps69
 go_wp2
 rw[Lib.run_neq_ptr_same w _ Tryz.underlying86 hj]
 go_wp2
 go_end0
 exact⟨rfl,rfl⟩
set_option maxHeartbeats 1000000 in
set_option maxRecDepth 100000 in
theorem P9(b:Nat)(w:World)(h0:w.cell? ⟨b,0,none⟩=some (.pointer none))(hsh:w.shape? b=some (89,2))(hfz:w.frozen? ⟨b,0,none⟩=false) :
  Calls Tryz.prog 69 #[.pointer (some ⟨b,0,none⟩)] w fun e w'=>e=.returned (.tuple #[])∧w'=w.setCell ⟨b,0,none⟩ (.pointer (some ⟨b,0,none⟩)):=by
 obtain⟨j,hj,SO⟩:=OL
 go_enter Tryz.func69,Tryz.ntmps69
 go_wp2
 rw[Lib.run_to_unsafe w ⟨b,0,none⟩ Tryz.underlying86 Tryz.underlying143 hj (by rw[SO];decide) hsh (Nat.zero_lt_succ 1)]
 simp only[Result.andThen]
 rw[Oper.upon_value]
 go_wp2
 rw[run_callFunc_extern Tryz.func96 (by kernel_rfl) (by kernel_rfl) (by kernel_rfl) (e:=Extern.AbiNoEscape.same) (by kernel_rfl)]
 rw[Lib.run_noEscape]
 simp only[Result.andThen]
 rw[Oper.upon_value]
 go_wp2
 rw[Lib.run_from_unsafe w ⟨b,0,none⟩ Tryz.underlying143 Tryz.underlying86 hj hsh (show liesAt Tryz.prog Tryz.prog.depth 89 (2 / Tryz.prog.cellsOf 89) 0 89 1=true by kernel_rfl)]
 simp only[Result.andThen]
 rw[Oper.upon_value]
 go_wp2
 go_end0
 exact⟨rfl,rfl⟩
theorem qY:nu Tryz.prog 69 (.Qr 89):=by
 refine⟨Ok Tryz.func69 (by kernel_rfl) (by kernel_rfl),fun w b p v fr hb hfr hp=>?_⟩
 rcases hp with rfl|rfl
 ·refine(P9 b w (by rw[Lib.cell_of_heap hb];rfl) (by simp[World.shape?,hb]) (by simp[World.frozen?,hb];omega)).mono ?_
  rintro e w' ⟨rfl,rfl⟩
  exact⟨rfl,.inr (KT hb)⟩
 ·refine(SB b w (by rw[Lib.cell_of_heap hb];rfl)).mono ?_
  rintro e w' ⟨rfl,rfl⟩
  exact⟨rfl,.inl rfl⟩
set_option maxHeartbeats 2000000 in
set_option maxRecDepth 100000 in
theorem SC(b:Nat)(w:World)(g cap:Nat)(l:List UInt8)(h0:l≠[])(hw:w.cell? ⟨b,1,none⟩=some (.slice (some ⟨g,0,none⟩) l.length cap))(hc:cap≠0){cells:Nat}(hsh:w.shape? g=some (5,cells))(hn:l.length≤cells)(h63:l.length≤9223372036854775807)
  (hcell:∀j x,l[j]?=some x→w.cell? ((⟨g,0,none⟩:Addr).add j)=some (.int .u8 x.toNat)) :
  Calls Tryz.prog 48 #[.pointer (some ⟨b,0,none⟩)] w fun e w'=>e=.returned (.string ⟨l.toArray⟩)∧w'=w.drew.freeze ⟨g,0,none⟩ l.length:=by
 have mixed:=JG
 have c1:w.drew.cell? ⟨b,1,none⟩=some (.slice (some ⟨g,0,none⟩) l.length cap):=hw
 have YB:(Builtin.unsafeSliceData_ #[87] 114 #[.slice (some ⟨g,0,none⟩) l.length cap]).run Tryz.prog w.drew=.ok (.pointer (some ⟨g,0,none⟩)) w.drew:=Lib.run_unsafeSliceData_row _ _ _ _ _ _ hc
 have YC:(Builtin.unsafeString_ #[114,3] 9 #[.pointer (some ⟨g,0,none⟩),.int .i64 l.length]).run Tryz.prog w.drew=.ok (.string ⟨l.toArray⟩) (w.drew.freeze ⟨g,0,none⟩ l.length) :=
  Lib.run_unsafeString_row w.drew 114 3 9 5 Tryz.underlying114 (by kernel_rfl) g cells hsh l h0 hn h63 hcell
 go_enter Tryz.func48,Tryz.ntmps48
 go_wp2
 go_region_o
 all_goals (go_wp2;go_ret;exact⟨rfl,rfl⟩)
set_option maxHeartbeats 2000000 in
set_option maxRecDepth 100000 in
theorem T6(b:Nat)(w:World)(hw:w.cell? ⟨b,1,none⟩=some (.slice none 0 0)) :
  Calls Tryz.prog 48 #[.pointer (some ⟨b,0,none⟩)] w fun e w'=>e=.returned (.string ⟨#[]⟩)∧sC none w w':=by
 have mixed:=JG
 have c1:w.drew.cell? ⟨b,1,none⟩=some (.slice none 0 0):=hw
 have YC:∀(W:World) q,(Builtin.unsafeString_ #[114,3] 9 #[.pointer q,.int .i64 0]).run Tryz.prog W=.ok (.string .empty) W:=fun W q=>Lib.run_unsafeString_none W _ _ _ q
 have YB:(Builtin.unsafeSliceData_ #[87] 114 #[.slice none 0 0]).run Tryz.prog w.drew=.ok (.pointer none) w.drew:=rfl
 go_enter Tryz.func48,Tryz.ntmps48
 go_wp2
 go_region_o
 all_goals (go_wp2;go_ret;exact⟨rfl,(sC.refl _ w).drew⟩)
set_option maxHeartbeats 2000000 in
set_option maxRecDepth 100000 in
theorem SD(b:Nat)(w:World)(g cap:Nat)(hc0:cap≠0)(hw:w.cell? ⟨b,1,none⟩=some (.slice (some ⟨g,0,none⟩) 0 cap)) :
  Calls Tryz.prog 48 #[.pointer (some ⟨b,0,none⟩)] w fun e w'=>e=.returned (.string ⟨#[]⟩)∧sC none w w':=by
 have mixed:=JG
 have c1:w.drew.cell? ⟨b,1,none⟩=some (.slice (some ⟨g,0,none⟩) 0 cap):=hw
 have YC:∀(W:World) q,(Builtin.unsafeString_ #[114,3] 9 #[.pointer q,.int .i64 0]).run Tryz.prog W=.ok (.string .empty) W:=fun W q=>Lib.run_unsafeString_none W _ _ _ q
 have YB:(Builtin.unsafeSliceData_ #[87] 114 #[.slice (some ⟨g,0,none⟩) 0 cap]).run Tryz.prog w.drew=.ok (.pointer (some ⟨g,0,none⟩)) w.drew:=Lib.run_unsafeSliceData_row _ _ _ _ _ _ hc0
 clear hc0
 go_enter Tryz.func48,Tryz.ntmps48
 go_wp2
 go_region_o
 all_goals (go_wp2;go_ret;exact⟨rfl,(sC.refl _ w).drew⟩)
set_option maxHeartbeats 2000000 in
set_option maxRecDepth 100000 in
theorem NU(b:Nat)(w:World)(g n:Nat)(hb:b<w.heap.size)(hsh:w.shape? g=some (5,n))(hw:w.cell? ⟨b,1,none⟩=some (.slice (some ⟨g,0,none⟩) 0 0)) :
  Calls Tryz.prog 48 #[.pointer (some ⟨b,0,none⟩)] w fun e w'=>e=.returned (.string ⟨#[]⟩)∧sC none w w':=by
 have mixed:=JG
 have c1:w.drew.cell? ⟨b,1,none⟩=some (.slice (some ⟨g,0,none⟩) 0 0):=hw
 have YC:∀(W:World) q,(Builtin.unsafeString_ #[114,3] 9 #[.pointer q,.int .i64 0]).run Tryz.prog W=.ok (.string .empty) W:=fun W q=>Lib.run_unsafeString_none W _ _ _ q
 have YB:(Builtin.unsafeSliceData_ #[87] 114 #[.slice (some ⟨g,0,none⟩) 0 0]).run Tryz.prog w.drew=.ok (.pointer (some ⟨w.drew.heap.size,0,none⟩)) (w.drew.alloc (.view ⟨g,0,none⟩ 5)) :=
  Lib.run_unsafeSliceData_zero w.drew _ _ 5 Tryz.underlying114 ⟨g,0,none⟩ 0 (5,n) hsh
 have c2:(w.drew.alloc (.view ⟨g,0,none⟩ 5)).cell? ⟨b,1,none⟩=some (.slice (some ⟨g,0,none⟩) 0 0):=(cQ (cr w.drew _ b hb)).trans c1
 have c3:(w.alloc (.view ⟨g,0,none⟩ 5)).drew.cell? ⟨b,1,none⟩=some (.slice (some ⟨g,0,none⟩) 0 0):=c2
 have c0:w.cell? ⟨b,1,none⟩=some (.slice (some ⟨g,0,none⟩) 0 0):=c1
 go_enter Tryz.func48,Tryz.ntmps48
 go_wp2
 go_region_o
 all_goals (go_wp2;go_ret;exact⟨rfl,(sC.refl _ w).drew.alloc _⟩)
theorem tF:nu Tryz.prog 48 (.str 89 5):=by
 refine⟨Ok Tryz.func48 (by kernel_rfl) (by kernel_rfl),fun w b p v fr l og hb hl=>?_⟩
 have c1:w.cell? ⟨b,1,none⟩=some v:=by rw[Lib.cell_of_heap hb];rfl
 rcases hl with ⟨rfl,rfl,rfl⟩|⟨g,cap,cur,fr',rfl,rfl,hg,hle,hm,hsz,hc⟩
 ·exact T6 b w c1
 ·have hsh:w.shape? g=some (5,cur.size):=by simp[World.shape?,hg]
  by_cases h0:l=[]
  ·subst h0
   by_cases hc0:cap=0
   ·subst hc0
    exact(NU b w g _ (Array.getElem?_eq_some_iff.1 hb).1 hsh c1).mono fun e w' h=>⟨h.1,h.2.weaken⟩
   ·exact(SD b w g cap hc0 c1).mono fun e w' h=>⟨h.1,h.2.weaken⟩
  ·have hpos:0<l.length:=List.length_pos_iff.2 h0
   have hmx:maxLen≤9223372036854775807:=by decide
   refine(SC b w g cap l h0 c1 (by omega) hsh (by omega) (by omega) fun j x hx=>?_).mono ?_
   ·rw[Ge.addr_add,Lib.cell_of_heap hg,Nat.zero_add]
    exact hc j x hx
   ·rintro e w' ⟨rfl,rfl⟩
    exact⟨rfl,(sC.refl _ w).drew.freeze _⟩
end Go.Proofs.YtjkmocnbjhpilaaGreatDoor
