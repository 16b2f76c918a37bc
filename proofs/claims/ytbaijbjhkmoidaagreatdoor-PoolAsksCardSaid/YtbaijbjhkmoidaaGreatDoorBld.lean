/- strings.Builder's copyCheck and String, taken as a whole, do what the ghost interpreter takes them to do. -/
import Derived.Test.YtbaijbjhkmoidaaGreatDoorRows
import Derived.Test.YtbaijbjhkmoidaaGreatDoorGeK
import Derived.Shelf.RegionOpenPlain
import Derived.Lib.Walk
import Derived.Lib.Builder
import Derived.Lib.UnsafeStr
import Derived.WalkKit
import Derived.Laws.Externs
set_option linter.unusedVariables false
set_option linter.unusedSimpArgs false
set_option linter.unusedSectionVars false
namespace Go.Proofs.YtbaijbjhkmoidaaGreatDoor
open Go Go.Ge Go.Shelf Go.RowKit Go.Lib
theorem DX:Tryz.prog.follows .mixedOrders=true:=by kernel_rfl
theorem IA:∃j,Tryz.prog.info? 197=some j∧j.size=2:=Option.map_eq_some_iff.1 (show(Tryz.prog.info? 197).map (·.size)=some 2 by kernel_rfl)
set_option maxHeartbeats 1000000 in
set_option maxRecDepth 100000 in
theorem MD(b:Nat)(w:World)(h0:w.cell? ⟨b,0,none⟩=some (.pointer (some ⟨b,0,none⟩))) :
  Calls Tryz.prog 137 #[.pointer (some ⟨b,0,none⟩)] w fun e w'=>e=.returned (.tuple #[])∧w'=w:=by
 obtain⟨j,hj,M0⟩:=IA
 go_enter Tryz.func137,Tryz.ntmps137
 go_wp2
 rw[Lib.run_neq_ptr_same w _ Tryz.underlying195 hj]
 go_wp2
 go_end0
 exact⟨rfl,rfl⟩
set_option maxHeartbeats 1000000 in
set_option maxRecDepth 100000 in
theorem J3(b:Nat)(w:World)(h0:w.cell? ⟨b,0,none⟩=some (.pointer none))(hsh:w.shape? b=some (197,2))(hfz:w.frozen? ⟨b,0,none⟩=false) :
  Calls Tryz.prog 137 #[.pointer (some ⟨b,0,none⟩)] w fun e w'=>e=.returned (.tuple #[])∧w'=w.setCell ⟨b,0,none⟩ (.pointer (some ⟨b,0,none⟩)):=by
 obtain⟨j,hj,M0⟩:=IA
 go_enter Tryz.func137,Tryz.ntmps137
 go_wp2
 rw[Lib.run_to_unsafe w ⟨b,0,none⟩ Tryz.underlying195 Tryz.underlying242 hj (by rw[M0];decide) hsh (Nat.zero_lt_succ 1)];simp only[Result.andThen];rw[Oper.upon_value]
 go_wp2
 rw[run_callFunc_extern Tryz.func157 (by kernel_rfl) (by kernel_rfl) (by kernel_rfl) (e:=Extern.AbiNoEscape.same) (by kernel_rfl)];rw[Lib.run_noEscape];simp only[Result.andThen];rw[Oper.upon_value]
 go_wp2
 rw[Lib.run_from_unsafe w ⟨b,0,none⟩ Tryz.underlying242 Tryz.underlying195 hj hsh (show liesAt Tryz.prog Tryz.prog.depth 197 (2 / Tryz.prog.cellsOf 197) 0 197 1=true by kernel_rfl)];simp only[Result.andThen];rw[Oper.upon_value]
 go_wp2
 go_end0
 exact⟨rfl,rfl⟩
theorem nw:mP Tryz.prog 137 (.KT 197):=by
 refine⟨DG Tryz.func137 (by kernel_rfl) (by kernel_rfl),fun w b p v fr hb hfr hp=>?_⟩;rcases hp with rfl|rfl
 ·refine(J3 b w (by rw[Lib.cell_of_heap hb];rfl) (by simp[World.shape?,hb]) (by simp[World.frozen?,hb];omega)).mono ?_;rintro e w' ⟨rfl,rfl⟩;exact⟨rfl,.inr (Fq hb)⟩
 ·refine(MD b w (by rw[Lib.cell_of_heap hb];rfl)).mono ?_;rintro e w' ⟨rfl,rfl⟩;exact⟨rfl,.inl rfl⟩
set_option maxHeartbeats 2000000 in
set_option maxRecDepth 100000 in
theorem ME(b:Nat)(w:World)(g cap:Nat)(l:List UInt8)(h0:l≠[])(hw:w.cell? ⟨b,1,none⟩=some (.slice (some ⟨g,0,none⟩) l.length cap))(hc:cap≠0){cells:Nat}(hsh:w.shape? g=some (5,cells))(hn:l.length≤cells)(h63:l.length≤9223372036854775807)
  (hcell:∀j x,l[j]?=some x→w.cell? ((⟨g,0,none⟩:Addr).add j)=some (.int .u8 x.toNat)) :
  Calls Tryz.prog 110 #[.pointer (some ⟨b,0,none⟩)] w fun e w'=>e=.returned (.string ⟨l.toArray⟩)∧w'=w.drew.freeze ⟨g,0,none⟩ l.length:=by
 have mixed:=DX;have c1:w.drew.cell? ⟨b,1,none⟩=some (.slice (some ⟨g,0,none⟩) l.length cap):=hw;have S6:(Builtin.unsafeSliceData_ #[98] 229 #[.slice (some ⟨g,0,none⟩) l.length cap]).run Tryz.prog w.drew=.ok (.pointer (some ⟨g,0,none⟩)) w.drew:=Lib.run_unsafeSliceData_row _ _ _ _ _ _ hc;have S7:(Builtin.unsafeString_ #[229,3] 9 #[.pointer (some ⟨g,0,none⟩),.int .i64 l.length]).run Tryz.prog w.drew=.ok (.string ⟨l.toArray⟩) (w.drew.freeze ⟨g,0,none⟩ l.length) :=
  Lib.run_unsafeString_row w.drew 229 3 9 5 Tryz.underlying229 (by kernel_rfl) g cells hsh l h0 hn h63 hcell
 go_enter Tryz.func110,Tryz.ntmps110
 go_wp2
 go_region_o
 all_goals (go_wp2;go_ret;exact⟨rfl,rfl⟩)
set_option maxHeartbeats 2000000 in
set_option maxRecDepth 100000 in
theorem Ok(b:Nat)(w:World)(hw:w.cell? ⟨b,1,none⟩=some (.slice none 0 0)) :
  Calls Tryz.prog 110 #[.pointer (some ⟨b,0,none⟩)] w fun e w'=>e=.returned (.string ⟨#[]⟩)∧oz none w w':=by
 have mixed:=DX;have c1:w.drew.cell? ⟨b,1,none⟩=some (.slice none 0 0):=hw;have S7:∀(W:World) q,(Builtin.unsafeString_ #[229,3] 9 #[.pointer q,.int .i64 0]).run Tryz.prog W=.ok (.string .empty) W:=fun W q=>Lib.run_unsafeString_none W _ _ _ q;have S6:(Builtin.unsafeSliceData_ #[98] 229 #[.slice none 0 0]).run Tryz.prog w.drew=.ok (.pointer none) w.drew:=rfl
 go_enter Tryz.func110,Tryz.ntmps110
 go_wp2
 go_region_o
 all_goals (go_wp2;go_ret;exact⟨rfl,(oz.refl _ w).drew⟩)
set_option maxHeartbeats 2000000 in
set_option maxRecDepth 100000 in
theorem MF(b:Nat)(w:World)(g cap:Nat)(hc0:cap≠0)(hw:w.cell? ⟨b,1,none⟩=some (.slice (some ⟨g,0,none⟩) 0 cap)) :
  Calls Tryz.prog 110 #[.pointer (some ⟨b,0,none⟩)] w fun e w'=>e=.returned (.string ⟨#[]⟩)∧oz none w w':=by
 have mixed:=DX;have c1:w.drew.cell? ⟨b,1,none⟩=some (.slice (some ⟨g,0,none⟩) 0 cap):=hw;have S7:∀(W:World) q,(Builtin.unsafeString_ #[229,3] 9 #[.pointer q,.int .i64 0]).run Tryz.prog W=.ok (.string .empty) W:=fun W q=>Lib.run_unsafeString_none W _ _ _ q;have S6:(Builtin.unsafeSliceData_ #[98] 229 #[.slice (some ⟨g,0,none⟩) 0 cap]).run Tryz.prog w.drew=.ok (.pointer (some ⟨g,0,none⟩)) w.drew:=Lib.run_unsafeSliceData_row _ _ _ _ _ _ hc0;clear hc0
 go_enter Tryz.func110,Tryz.ntmps110
 go_wp2
 go_region_o
 all_goals (go_wp2;go_ret;exact⟨rfl,(oz.refl _ w).drew⟩)
set_option maxHeartbeats 2000000 in
set_option maxRecDepth 100000 in
theorem HC(b:Nat)(w:World)(g n:Nat)(hb:b<w.heap.size)(hsh:w.shape? g=some (5,n))(hw:w.cell? ⟨b,1,none⟩=some (.slice (some ⟨g,0,none⟩) 0 0)) :
  Calls Tryz.prog 110 #[.pointer (some ⟨b,0,none⟩)] w fun e w'=>e=.returned (.string ⟨#[]⟩)∧oz none w w':=by
 have mixed:=DX;have c1:w.drew.cell? ⟨b,1,none⟩=some (.slice (some ⟨g,0,none⟩) 0 0):=hw;have S7:∀(W:World) q,(Builtin.unsafeString_ #[229,3] 9 #[.pointer q,.int .i64 0]).run Tryz.prog W=.ok (.string .empty) W:=fun W q=>Lib.run_unsafeString_none W _ _ _ q;have S6:(Builtin.unsafeSliceData_ #[98] 229 #[.slice (some ⟨g,0,none⟩) 0 0]).run Tryz.prog w.drew=.ok (.pointer (some ⟨w.drew.heap.size,0,none⟩)) (w.drew.alloc (.view ⟨g,0,none⟩ 5)) :=
  Lib.run_unsafeSliceData_zero w.drew _ _ 5 Tryz.underlying229 ⟨g,0,none⟩ 0 (5,n) hsh
 have c2:(w.drew.alloc (.view ⟨g,0,none⟩ 5)).cell? ⟨b,1,none⟩=some (.slice (some ⟨g,0,none⟩) 0 0):=(ep (cu w.drew _ b hb)).trans c1;have c3:(w.alloc (.view ⟨g,0,none⟩ 5)).drew.cell? ⟨b,1,none⟩=some (.slice (some ⟨g,0,none⟩) 0 0):=c2;have c0:w.cell? ⟨b,1,none⟩=some (.slice (some ⟨g,0,none⟩) 0 0):=c1
 go_enter Tryz.func110,Tryz.ntmps110
 go_wp2
 go_region_o
 all_goals (go_wp2;go_ret;exact⟨rfl,(oz.refl _ w).drew.alloc _⟩)
theorem pJ:mP Tryz.prog 110 (.str 197 5):=by
 refine⟨DG Tryz.func110 (by kernel_rfl) (by kernel_rfl),fun w b p v fr l og hb hl=>?_⟩;have c1:w.cell? ⟨b,1,none⟩=some v:=by rw[Lib.cell_of_heap hb];rfl
 rcases hl with ⟨rfl,rfl,rfl⟩|⟨g,cap,cur,fr',rfl,rfl,hg,hle,hm,hsz,hc⟩
 ·exact Ok b w c1
 ·have hsh:w.shape? g=some (5,cur.size):=by simp[World.shape?,hg]
  by_cases h0:l=[]
  ·subst h0;by_cases hc0:cap=0
   ·subst hc0;exact(HC b w g _ (Array.getElem?_eq_some_iff.1 hb).1 hsh c1).mono fun e w' h=>⟨h.1,h.2.weaken⟩
   ·exact(MF b w g cap hc0 c1).mono fun e w' h=>⟨h.1,h.2.weaken⟩
  ·have hpos:0<l.length:=List.length_pos_iff.2 h0;have VF:maxLen≤9223372036854775807:=by decide
   refine(ME b w g cap l h0 c1 (by omega) hsh (by omega) (by omega) fun j x hx=>?_).mono ?_
   ·rw[Ge.addr_add,Lib.cell_of_heap hg,oY];exact hc j x hx
   ·rintro e w' ⟨rfl,rfl⟩;exact⟨rfl,(oz.refl _ w).drew.freeze _⟩
end Go.Proofs.YtbaijbjhkmoidaaGreatDoor
