/- strings.Builder's copyCheck and String, taken as a whole, do what the ghost interpreter takes them to do. -/
import Derived.Test.YtdpbdiikloedbaaGreatDoorRows
import Derived.Test.YtdpbdiikloedbaaGreatDoorGeK
import Derived.Lib.Walk
import Derived.Lib.Builder
import Derived.Lib.UnsafeStr
import Derived.Laws.Externs
namespace Go.Proofs.YtdpbdiikloedbaaGreatDoor
open Go Go.Ge Go.Shelf Go.RowKit Go.Lib
theorem Qb:Tryz.prog.follows .mixedOrders=true:=by kernel_rfl
theorem Xi:∃j,Tryz.prog.info? 171=some j/\j.size=2:=qY.1 (show(Tryz.prog.info? 171).map (·.size)=some 2 by kernel_rfl)
set_option maxHeartbeats 1000000 in
set_option maxRecDepth 100000 in
theorem ab5(b:Nat)(w:World)(d:w.cell? ⟨b,0,none⟩=some (.pointer<|some ⟨b,0,none⟩)) :
  Calls Tryz.prog 212 #[.pointer<|some ⟨b,0,none⟩] w λe w'=>e=.returned (.tuple #[])/\w'=w:=by
 obtain⟨j,a,c⟩:=Xi
 go_enter Tryz.func212,Tryz.ntmps212
 go_wp2
 rw[Lib.run_neq_ptr_same w _ Tryz.underlying169 a]
 go_wp2
 go_end0
 exact⟨rfl,rfl⟩
set_option maxHeartbeats 1000000 in
set_option maxRecDepth 100000 in
theorem Ze(b:Nat)(w:World)(g:w.cell? ⟨b,0,none⟩=some (.pointer none))(a:w.shape? b=some (171,2))(f:w.frozen? ⟨b,0,none⟩=false) :
  Calls Tryz.prog 212 #[.pointer<|some ⟨b,0,none⟩] w λe w'=>e=.returned (.tuple #[])/\w'=w.setCell ⟨b,0,none⟩ (.pointer<|some ⟨b,0,none⟩):=by
 obtain⟨j,d,c⟩:=Xi
 go_enter Tryz.func212,Tryz.ntmps212
 go_wp2
 rw[Lib.run_to_unsafe w ⟨b,0,none⟩ Tryz.underlying169 Tryz.underlying283 d (by rw[c];decide) a<|Nat.zero_lt_succ 1];simp only[Result.andThen];rw[Oper.upon_value]
 go_wp2
 rw[run_callFunc_extern Tryz.func264 (by kernel_rfl) (by kernel_rfl) (by kernel_rfl) (e:=Extern.AbiNoEscape.same)<|by kernel_rfl];rw[Lib.run_noEscape];simp only[Result.andThen];rw[Oper.upon_value]
 go_wp2
 rw[Lib.run_from_unsafe w ⟨b,0,none⟩ Tryz.underlying283 Tryz.underlying169 d a<|show liesAt Tryz.prog Tryz.prog.depth 171 (2 / Tryz.prog.cellsOf 171) 0 171 1=true by kernel_rfl];simp only[Result.andThen];rw[Oper.upon_value]
 go_wp2
 go_end0
 exact⟨rfl,rfl⟩
theorem uc:gk Tryz.prog 212 (.chk 171):=by
 refine⟨Ww Tryz.func212 (by kernel_rfl)<|by kernel_rfl,λw b p v f a c d=>?_⟩;rcases d with rfl|rfl
 .refine(Ze b w (by rw[Lib.cell_of_heap a];rfl) (by simp[World.shape?,a])<|by simp[World.frozen?,a];omega).mono ?_;rintro e w' ⟨rfl,rfl⟩;exact⟨rfl,.inr (R3 a)⟩
 .refine(ab5 b w<|by rw[Lib.cell_of_heap a];rfl).mono ?_;rintro e w' ⟨rfl,rfl⟩;exact⟨rfl,.inl rfl⟩
set_option maxHeartbeats 2000000 in
set_option maxRecDepth 100000 in
theorem ab6(b:Nat)(w:World)(g c:Nat)(l:aq)(i:l≠[])(k:w.cell? ⟨b,1,none⟩=some (.slice (some ⟨g,0,none⟩) l.length c))(m:c≠0){a:Nat}(f:w.shape? g=some (5,a))(n:l.length<=a)(h:l.length<=9223372036854775807)
  (d:∀j x,l[j]?=some x->w.cell? ((⟨g,0,none⟩:Addr).add j)=some (.int .u8 x.toNat)) :
  Calls Tryz.prog 148 #[.pointer<|some ⟨b,0,none⟩] w λe w'=>e=.returned (.string ⟨l.toArray⟩)/\w'=w.drew.freeze ⟨g,0,none⟩ l.length:=by
 have mixed:=Qb;have q:w.drew.cell? ⟨b,1,none⟩=some (.slice (some ⟨g,0,none⟩) l.length c):=k;have o:(Builtin.unsafeSliceData_ #[100] 238 #[.slice (some ⟨g,0,none⟩) l.length c]).run Tryz.prog w.drew=.ok (.pointer<|some ⟨g,0,none⟩) w.drew:=Lib.run_unsafeSliceData_row _ _ _ _ _ _ m;have p:(Builtin.unsafeString_ #[238,3] 9 #[.pointer<|some ⟨g,0,none⟩,.int .i64 l.length]).run Tryz.prog w.drew=.ok (.string ⟨l.toArray⟩) (w.drew.freeze ⟨g,0,none⟩ l.length) :=
  Lib.run_unsafeString_row w.drew 238 3 9 5 Tryz.underlying238 (by kernel_rfl) g a f l i n h d
 go_enter Tryz.func148,Tryz.ntmps148
 go_wp2
 go_region_o
 all_goals (go_wp2;go_ret;exact⟨rfl,rfl⟩)
set_option maxHeartbeats 2000000 in
set_option maxRecDepth 100000 in
theorem adJ(b:Nat)(w:World)(a:w.cell? ⟨b,1,none⟩=some (.slice none 0 0)) :
  Calls Tryz.prog 148 #[.pointer<|some ⟨b,0,none⟩] w λe w'=>e=.returned (.string ⟨#[]⟩)/\vn none w w':=by
 have mixed:=Qb;have f:w.drew.cell? ⟨b,1,none⟩=some (.slice none 0 0):=a;have c:∀(W:World) q,(Builtin.unsafeString_ #[238,3] 9 #[.pointer q,.int .i64 0]).run Tryz.prog W=.ok (.string .empty) W:=λW q=>Lib.run_unsafeString_none W _ _ _ q;have d:(Builtin.unsafeSliceData_ #[100] 238 #[.slice none 0 0]).run Tryz.prog w.drew=.ok (.pointer none) w.drew:=rfl
 go_enter Tryz.func148,Tryz.ntmps148
 go_wp2
 go_region_o
 all_goals (go_wp2;go_ret;exact⟨rfl,(vn.refl _ w).drew⟩)
set_option maxHeartbeats 2000000 in
set_option maxRecDepth 100000 in
theorem ab7(b:Nat)(w:World)(g a:Nat)(c:a≠0)(d:w.cell? ⟨b,1,none⟩=some (.slice (some ⟨g,0,none⟩) 0 a)) :
  Calls Tryz.prog 148 #[.pointer<|some ⟨b,0,none⟩] w λe w'=>e=.returned (.string ⟨#[]⟩)/\vn none w w':=by
 have mixed:=Qb;have i:w.drew.cell? ⟨b,1,none⟩=some (.slice (some ⟨g,0,none⟩) 0 a):=d;have f:∀(W:World) q,(Builtin.unsafeString_ #[238,3] 9 #[.pointer q,.int .i64 0]).run Tryz.prog W=.ok (.string .empty) W:=λW q=>Lib.run_unsafeString_none W _ _ _ q;have h:(Builtin.unsafeSliceData_ #[100] 238 #[.slice (some ⟨g,0,none⟩) 0 a]).run Tryz.prog w.drew=.ok (.pointer<|some ⟨g,0,none⟩) w.drew:=Lib.run_unsafeSliceData_row _ _ _ _ _ _ c;clear c
 go_enter Tryz.func148,Tryz.ntmps148
 go_wp2
 go_region_o
 all_goals (go_wp2;go_ret;exact⟨rfl,(vn.refl _ w).drew⟩)
set_option maxHeartbeats 2000000 in
set_option maxRecDepth 100000 in
theorem VQ(b:Nat)(w:World)(g n:Nat)(d:b<w.heap.size)(a:w.shape? g=some (5,n))(f:w.cell? ⟨b,1,none⟩=some (.slice (some ⟨g,0,none⟩) 0 0)) :
  Calls Tryz.prog 148 #[.pointer<|some ⟨b,0,none⟩] w λe w'=>e=.returned (.string ⟨#[]⟩)/\vn none w w':=by
 have mixed:=Qb;have c:w.drew.cell? ⟨b,1,none⟩=some (.slice (some ⟨g,0,none⟩) 0 0):=f;have h:∀(W:World) q,(Builtin.unsafeString_ #[238,3] 9 #[.pointer q,.int .i64 0]).run Tryz.prog W=.ok (.string .empty) W:=λW q=>Lib.run_unsafeString_none W _ _ _ q;have i:(Builtin.unsafeSliceData_ #[100] 238 #[.slice (some ⟨g,0,none⟩) 0 0]).run Tryz.prog w.drew=.ok (.pointer<|some ⟨w.drew.heap.size,0,none⟩) (w.drew.alloc<|.view ⟨g,0,none⟩ 5) :=
  Lib.run_unsafeSliceData_zero w.drew _ _ 5 Tryz.underlying238 ⟨g,0,none⟩ 0 (5,n) a
 have j:(w.drew.alloc<|.view ⟨g,0,none⟩ 5).cell? ⟨b,1,none⟩=some (.slice (some ⟨g,0,none⟩) 0 0):=(di<|cK w.drew _ b d).trans c;have c3:(w.alloc<|.view ⟨g,0,none⟩ 5).drew.cell? ⟨b,1,none⟩=some (.slice (some ⟨g,0,none⟩) 0 0):=j;have k:w.cell? ⟨b,1,none⟩=some (.slice (some ⟨g,0,none⟩) 0 0):=c
 go_enter Tryz.func148,Tryz.ntmps148
 go_wp2
 go_region_o
 all_goals (go_wp2;go_ret;exact⟨rfl,(vn.refl _ w).drew.alloc _⟩)
theorem wE:gk Tryz.prog 148 (.str 171 5):=by
 refine⟨Ww Tryz.func148 (by kernel_rfl)<|by kernel_rfl,λw b p v A l B m q=>?_⟩;have f:w.cell? ⟨b,1,none⟩=some v:=by rw[Lib.cell_of_heap m];rfl
 rcases q with ⟨rfl,rfl,rfl⟩|⟨g,a,i,r,rfl,rfl,n,s,C,t,u⟩
 .exact adJ b w f
 .have c:w.shape? g=some (5,i.size):=by simp[World.shape?,n]
  by_cases k:l=[]
  .subst k;by_cases d:a=0
   .subst d;exact(VQ b w g _ (vk.1 m).1 c f).mono λe w' h=>⟨h.1,h.2.weaken⟩
   .exact(ab7 b w g a d f).mono λe w' h=>⟨h.1,h.2.weaken⟩
  .have o:0<l.length:=Ir.2 k;have y:maxLen<=9223372036854775807:=by decide
   refine(ab6 b w g a l k f (by omega) c (by omega) (by omega) λj x z=>?_).mono ?_
   .rw[Ge.addr_add,Lib.cell_of_heap n,sr];exact u j x z
   .rintro e w' ⟨rfl,rfl⟩;exact⟨rfl,(vn.refl _ w).drew.freeze _⟩
end Go.Proofs.YtdpbdiikloedbaaGreatDoor
