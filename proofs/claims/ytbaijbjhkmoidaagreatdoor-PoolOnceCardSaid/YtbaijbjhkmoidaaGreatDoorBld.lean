/- strings.Builder's copyCheck and String, taken as a whole, do what the ghost interpreter takes them to do. -/
import Derived.Test.YtbaijbjhkmoidaaGreatDoorRows
import Derived.Test.YtbaijbjhkmoidaaGreatDoorGeK
import Derived.Lib.Walk
import Derived.Lib.Builder
import Derived.Lib.UnsafeStr
import Derived.Laws.Externs
set_option linter.unusedVariables false
set_option linter.unusedSimpArgs false
set_option linter.unusedSectionVars false
namespace Go.Proofs.YtbaijbjhkmoidaaGreatDoor
open Go Go.Ge Go.Shelf Go.RowKit Go.Lib
theorem Ch:Tryz.prog.follows .mixedOrders=true:=by kernel_rfl
theorem G9:∃j,Tryz.prog.info? 197=some j/\j.size=2:=pS.1 (show(Tryz.prog.info? 197).map (·.size)=some 2 by kernel_rfl)
set_option maxHeartbeats 1000000 in
set_option maxRecDepth 100000 in
theorem Lr(b:Nat)(w:World)(d:w.cell? ⟨b,0,none⟩=some (.pointer<|some ⟨b,0,none⟩)) :
  Calls Tryz.prog 137 #[.pointer<|some ⟨b,0,none⟩] w λe w'=>e=.returned (.tuple #[])/\w'=w:=by
 obtain⟨j,a,c⟩:=G9
 go_enter Tryz.func137,Tryz.ntmps137
 go_wp2
 rw[Lib.run_neq_ptr_same w _ Tryz.underlying195 a]
 go_wp2
 go_end0
 exact⟨rfl,rfl⟩
set_option maxHeartbeats 1000000 in
set_option maxRecDepth 100000 in
theorem II(b:Nat)(w:World)(g:w.cell? ⟨b,0,none⟩=some (.pointer none))(a:w.shape? b=some (197,2))(f:w.frozen? ⟨b,0,none⟩=false) :
  Calls Tryz.prog 137 #[.pointer<|some ⟨b,0,none⟩] w λe w'=>e=.returned (.tuple #[])/\w'=w.setCell ⟨b,0,none⟩ (.pointer<|some ⟨b,0,none⟩):=by
 obtain⟨j,d,c⟩:=G9
 go_enter Tryz.func137,Tryz.ntmps137
 go_wp2
 rw[Lib.run_to_unsafe w ⟨b,0,none⟩ Tryz.underlying195 Tryz.underlying242 d (by rw[c];decide) a<|Nat.zero_lt_succ 1];simp only[Result.andThen];rw[Oper.upon_value]
 go_wp2
 rw[run_callFunc_extern Tryz.func157 (by kernel_rfl) (by kernel_rfl) (by kernel_rfl) (e:=Extern.AbiNoEscape.same)<|by kernel_rfl];rw[Lib.run_noEscape];simp only[Result.andThen];rw[Oper.upon_value]
 go_wp2
 rw[Lib.run_from_unsafe w ⟨b,0,none⟩ Tryz.underlying242 Tryz.underlying195 d a<|show liesAt Tryz.prog Tryz.prog.depth 197 (2 / Tryz.prog.cellsOf 197) 0 197 1=true by kernel_rfl];simp only[Result.andThen];rw[Oper.upon_value]
 go_wp2
 go_end0
 exact⟨rfl,rfl⟩
theorem mz:ko Tryz.prog 137 (.NA 197):=by
 refine⟨BS Tryz.func137 (by kernel_rfl)<|by kernel_rfl,λw b p v f a c d=>?_⟩;rcases d with rfl|rfl
 .refine(II b w (by rw[Lib.cell_of_heap a];rfl) (by simp[World.shape?,a])<|by simp[World.frozen?,a];omega).mono ?_;rintro e w' ⟨rfl,rfl⟩;exact⟨rfl,.inr (DQ a)⟩
 .refine(Lr b w<|by rw[Lib.cell_of_heap a];rfl).mono ?_;rintro e w' ⟨rfl,rfl⟩;exact⟨rfl,.inl rfl⟩
set_option maxHeartbeats 2000000 in
set_option maxRecDepth 100000 in
theorem Ls(b:Nat)(w:World)(g c:Nat)(l:aE)(i:l≠[])(k:w.cell? ⟨b,1,none⟩=some (.slice (some ⟨g,0,none⟩) l.length c))(m:c≠0){a:Nat}(f:w.shape? g=some (5,a))(n:l.length<=a)(h:l.length<=9223372036854775807)
  (d:∀j x,l[j]?=some x->w.cell? ((⟨g,0,none⟩:Addr).add j)=some (.int .u8 x.toNat)) :
  Calls Tryz.prog 110 #[.pointer<|some ⟨b,0,none⟩] w λe w'=>e=.returned (.string ⟨l.toArray⟩)/\w'=w.drew.freeze ⟨g,0,none⟩ l.length:=by
 have mixed:=Ch;have q:w.drew.cell? ⟨b,1,none⟩=some (.slice (some ⟨g,0,none⟩) l.length c):=k;have o:(Builtin.unsafeSliceData_ #[98] 229 #[.slice (some ⟨g,0,none⟩) l.length c]).run Tryz.prog w.drew=.ok (.pointer<|some ⟨g,0,none⟩) w.drew:=Lib.run_unsafeSliceData_row _ _ _ _ _ _ m;have p:(Builtin.unsafeString_ #[229,3] 9 #[.pointer<|some ⟨g,0,none⟩,.int .i64 l.length]).run Tryz.prog w.drew=.ok (.string ⟨l.toArray⟩) (w.drew.freeze ⟨g,0,none⟩ l.length) :=
  Lib.run_unsafeString_row w.drew 229 3 9 5 Tryz.underlying229 (by kernel_rfl) g a f l i n h d
 go_enter Tryz.func110,Tryz.ntmps110
 go_wp2
 go_region_o
 all_goals (go_wp2;go_ret;exact⟨rfl,rfl⟩)
set_option maxHeartbeats 2000000 in
set_option maxRecDepth 100000 in
theorem MX(b:Nat)(w:World)(a:w.cell? ⟨b,1,none⟩=some (.slice none 0 0)) :
  Calls Tryz.prog 110 #[.pointer<|some ⟨b,0,none⟩] w λe w'=>e=.returned (.string ⟨#[]⟩)/\np none w w':=by
 have mixed:=Ch;have f:w.drew.cell? ⟨b,1,none⟩=some (.slice none 0 0):=a;have c:∀(W:World) q,(Builtin.unsafeString_ #[229,3] 9 #[.pointer q,.int .i64 0]).run Tryz.prog W=.ok (.string .empty) W:=λW q=>Lib.run_unsafeString_none W _ _ _ q;have d:(Builtin.unsafeSliceData_ #[98] 229 #[.slice none 0 0]).run Tryz.prog w.drew=.ok (.pointer none) w.drew:=rfl
 go_enter Tryz.func110,Tryz.ntmps110
 go_wp2
 go_region_o
 all_goals (go_wp2;go_ret;exact⟨rfl,(np.refl _ w).drew⟩)
set_option maxHeartbeats 2000000 in
set_option maxRecDepth 100000 in
theorem Lt(b:Nat)(w:World)(g a:Nat)(c:a≠0)(d:w.cell? ⟨b,1,none⟩=some (.slice (some ⟨g,0,none⟩) 0 a)) :
  Calls Tryz.prog 110 #[.pointer<|some ⟨b,0,none⟩] w λe w'=>e=.returned (.string ⟨#[]⟩)/\np none w w':=by
 have mixed:=Ch;have i:w.drew.cell? ⟨b,1,none⟩=some (.slice (some ⟨g,0,none⟩) 0 a):=d;have f:∀(W:World) q,(Builtin.unsafeString_ #[229,3] 9 #[.pointer q,.int .i64 0]).run Tryz.prog W=.ok (.string .empty) W:=λW q=>Lib.run_unsafeString_none W _ _ _ q;have h:(Builtin.unsafeSliceData_ #[98] 229 #[.slice (some ⟨g,0,none⟩) 0 a]).run Tryz.prog w.drew=.ok (.pointer<|some ⟨g,0,none⟩) w.drew:=Lib.run_unsafeSliceData_row _ _ _ _ _ _ c;clear c
 go_enter Tryz.func110,Tryz.ntmps110
 go_wp2
 go_region_o
 all_goals (go_wp2;go_ret;exact⟨rfl,(np.refl _ w).drew⟩)
set_option maxHeartbeats 2000000 in
set_option maxRecDepth 100000 in
theorem F2(b:Nat)(w:World)(g n:Nat)(d:b<w.heap.size)(a:w.shape? g=some (5,n))(f:w.cell? ⟨b,1,none⟩=some (.slice (some ⟨g,0,none⟩) 0 0)) :
  Calls Tryz.prog 110 #[.pointer<|some ⟨b,0,none⟩] w λe w'=>e=.returned (.string ⟨#[]⟩)/\np none w w':=by
 have mixed:=Ch;have c:w.drew.cell? ⟨b,1,none⟩=some (.slice (some ⟨g,0,none⟩) 0 0):=f;have h:∀(W:World) q,(Builtin.unsafeString_ #[229,3] 9 #[.pointer q,.int .i64 0]).run Tryz.prog W=.ok (.string .empty) W:=λW q=>Lib.run_unsafeString_none W _ _ _ q;have i:(Builtin.unsafeSliceData_ #[98] 229 #[.slice (some ⟨g,0,none⟩) 0 0]).run Tryz.prog w.drew=.ok (.pointer<|some ⟨w.drew.heap.size,0,none⟩) (w.drew.alloc<|.view ⟨g,0,none⟩ 5) :=
  Lib.run_unsafeSliceData_zero w.drew _ _ 5 Tryz.underlying229 ⟨g,0,none⟩ 0 (5,n) a
 have j:(w.drew.alloc<|.view ⟨g,0,none⟩ 5).cell? ⟨b,1,none⟩=some (.slice (some ⟨g,0,none⟩) 0 0):=(dU<|cr w.drew _ b d).trans c;have c3:(w.alloc<|.view ⟨g,0,none⟩ 5).drew.cell? ⟨b,1,none⟩=some (.slice (some ⟨g,0,none⟩) 0 0):=j;have k:w.cell? ⟨b,1,none⟩=some (.slice (some ⟨g,0,none⟩) 0 0):=c
 go_enter Tryz.func110,Tryz.ntmps110
 go_wp2
 go_region_o
 all_goals (go_wp2;go_ret;exact⟨rfl,(np.refl _ w).drew.alloc _⟩)
theorem n6:ko Tryz.prog 110 (.str 197 5):=by
 refine⟨BS Tryz.func110 (by kernel_rfl)<|by kernel_rfl,λw b p v A l B m q=>?_⟩;have f:w.cell? ⟨b,1,none⟩=some v:=by rw[Lib.cell_of_heap m];rfl
 rcases q with ⟨rfl,rfl,rfl⟩|⟨g,a,i,r,rfl,rfl,n,s,C,t,u⟩
 .exact MX b w f
 .have c:w.shape? g=some (5,i.size):=by simp[World.shape?,n]
  by_cases k:l=[]
  .subst k;by_cases d:a=0
   .subst d;exact(F2 b w g _ (oc.1 m).1 c f).mono λe w' h=>⟨h.1,h.2.weaken⟩
   .exact(Lt b w g a d f).mono λe w' h=>⟨h.1,h.2.weaken⟩
  .have o:0<l.length:=List.length_pos_iff.2 k;have y:maxLen<=9223372036854775807:=by decide
   refine(Ls b w g a l k f (by omega) c (by omega) (by omega) λj x z=>?_).mono ?_
   .rw[Ge.addr_add,Lib.cell_of_heap n,kL];exact u j x z
   .rintro e w' ⟨rfl,rfl⟩;exact⟨rfl,(np.refl _ w).drew.freeze _⟩
end Go.Proofs.YtbaijbjhkmoidaaGreatDoor
