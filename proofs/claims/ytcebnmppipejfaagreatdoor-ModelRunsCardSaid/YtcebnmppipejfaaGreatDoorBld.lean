import Derived.Test.YtcebnmppipejfaaGreatDoorRows
import Derived.Test.YtcebnmppipejfaaGreatDoorGeI
import Derived.Lib.Walk
import Derived.Lib.Builder
import Derived.Lib.UnsafeStr
import Derived.Laws.Externs
set_option linter.unusedVariables false
set_option linter.unusedSimpArgs false
set_option linter.unusedSectionVars false
set_option linter.defProp false
open Option renaming some->aa,none->af
namespace Go.Proofs.YtcebnmppipejfaaGreatDoor
open Go Go.Ge Go.Shelf Go.RowKit Go.Lib
def XA:Tryz.prog.follows .mixedOrders=true:=by kernel_rfl
def afa:∃j,Tryz.prog.info? 203=aa j/\j.size=2:=Ho.1 (show(Tryz.prog.info? 203).map (·.size)=aa 2 by kernel_rfl)
set_option maxHeartbeats 1000000 in
set_option maxRecDepth 100000 in
def akw(b:Nat)(w:World)(d:w.cell? ⟨b,0,af⟩=aa (.pointer<|some ⟨b,0,af⟩)) :
  Calls Tryz.prog 296 #[.pointer<|some ⟨b,0,af⟩] w λe w'=>e=.returned (.tuple #[])/\w'=w:=by
 obtain⟨j,a,c⟩:=afa
 go_enter Tryz.func296,Tryz.ntmps296
 go_wp2
 rw[Lib.run_neq_ptr_same w _ Tryz.underlying201 a]
 go_wp2
 go_end0
 exact⟨rfl,rfl⟩
set_option maxHeartbeats 1000000 in
set_option maxRecDepth 100000 in
def ahh(b:Nat)(w:World)(g:w.cell? ⟨b,0,af⟩=aa (.pointer af))(a:w.shape? b=aa (203,2))(f:w.frozen? ⟨b,0,af⟩=false) :
  Calls Tryz.prog 296 #[.pointer<|some ⟨b,0,af⟩] w λe w'=>e=.returned (.tuple #[])/\w'=w.setCell ⟨b,0,af⟩ (.pointer<|some ⟨b,0,af⟩):=by
 obtain⟨j,d,c⟩:=afa
 go_enter Tryz.func296,Tryz.ntmps296
 go_wp2
 rw[Lib.run_to_unsafe w ⟨b,0,af⟩ Tryz.underlying201 Tryz.underlying343 d (by rw[c];decide) a<|Nat.zero_lt_succ 1];simp only[Result.andThen];rw[Oper.upon_value]
 go_wp2
 rw[run_callFunc_extern Tryz.func368 (by kernel_rfl) (by kernel_rfl) (by kernel_rfl) (e:=Extern.AbiNoEscape.same)<|by kernel_rfl];rw[Lib.run_noEscape];simp only[Result.andThen];rw[Oper.upon_value]
 go_wp2
 rw[Lib.run_from_unsafe w ⟨b,0,af⟩ Tryz.underlying343 Tryz.underlying201 d a<|show liesAt Tryz.prog Tryz.prog.depth 203 (2 / Tryz.prog.cellsOf 203) 0 203 1=true by kernel_rfl];simp only[Result.andThen];rw[Oper.upon_value]
 go_wp2
 go_end0
 exact⟨rfl,rfl⟩
def x7:e8 Tryz.prog 296 (.chk 203):=by
 refine⟨aej Tryz.func296 (by kernel_rfl)<|by kernel_rfl,λw b p v f a c d=>?_⟩;rcases d with rfl|rfl
 .refine(ahh b w (by rw[Lib.cell_of_heap a];rfl) (by simp[World.shape?,a])<|by simp[World.frozen?,a];omega).mono ?_;rintro e w' ⟨rfl,rfl⟩;exact⟨rfl,.inr (Zj a)⟩
 .refine(akw b w<|by rw[Lib.cell_of_heap a];rfl).mono ?_;rintro e w' ⟨rfl,rfl⟩;exact⟨rfl,.inl rfl⟩
set_option maxHeartbeats 2000000 in
set_option maxRecDepth 100000 in
def akx(b:Nat)(w:World)(g c:Nat)(l:bj)(i:l≠[])(k:w.cell? ⟨b,1,af⟩=aa (.slice (aa ⟨g,0,af⟩) l.length c))(m:c≠0){a:Nat}(f:w.shape? g=aa (5,a))(n:l.length<=a)(h:l.length<=9223372036854775807)
  (d:∀j x,l[j]?=aa x->w.cell? ((⟨g,0,af⟩:Addr).add j)=aa (.int .u8 x.toNat)) :
  Calls Tryz.prog 221 #[.pointer<|some ⟨b,0,af⟩] w λe w'=>e=.returned (.string ⟨l.toArray⟩)/\w'=w.drew.freeze ⟨g,0,af⟩ l.length:=by
 have mixed:=XA;have c1:w.drew.cell? ⟨b,1,af⟩=aa (.slice (aa ⟨g,0,af⟩) l.length c):=k;have o:(Builtin.unsafeSliceData_ #[180] 273 #[.slice (aa ⟨g,0,af⟩) l.length c]).run Tryz.prog w.drew=.ok (.pointer<|some ⟨g,0,af⟩) w.drew:=Lib.run_unsafeSliceData_row _ _ _ _ _ _ m;have p:(Builtin.unsafeString_ #[273,3] 9 #[.pointer<|some ⟨g,0,af⟩,.int .i64 l.length]).run Tryz.prog w.drew=.ok (.string ⟨l.toArray⟩) (w.drew.freeze ⟨g,0,af⟩ l.length) :=
  Lib.run_unsafeString_row w.drew 273 3 9 5 Tryz.underlying273 (by kernel_rfl) g a f l i n h d
 go_enter Tryz.func221,Tryz.ntmps221
 go_wp2
 go_region_o
 all_goals (go_wp2;go_ret;exact⟨rfl,rfl⟩)
set_option maxHeartbeats 2000000 in
set_option maxRecDepth 100000 in
def amK(b:Nat)(w:World)(a:w.cell? ⟨b,1,af⟩=aa (.slice af 0 0)) :
  Calls Tryz.prog 221 #[.pointer<|some ⟨b,0,af⟩] w λe w'=>e=.returned (.string ⟨#[]⟩)/\zp af w w':=by
 have mixed:=XA;have c1:w.drew.cell? ⟨b,1,af⟩=aa (.slice af 0 0):=a;have c:∀(W:World) q,(Builtin.unsafeString_ #[273,3] 9 #[.pointer q,.int .i64 0]).run Tryz.prog W=.ok (.string .empty) W:=λW q=>Lib.run_unsafeString_none W _ _ _ q;have d:(Builtin.unsafeSliceData_ #[180] 273 #[.slice af 0 0]).run Tryz.prog w.drew=.ok (.pointer af) w.drew:=rfl
 go_enter Tryz.func221,Tryz.ntmps221
 go_wp2
 go_region_o
 all_goals (go_wp2;go_ret;exact⟨rfl,(zp.refl _ w).drew⟩)
set_option maxHeartbeats 2000000 in
set_option maxRecDepth 100000 in
def aky(b:Nat)(w:World)(g a:Nat)(c:a≠0)(d:w.cell? ⟨b,1,af⟩=aa (.slice (aa ⟨g,0,af⟩) 0 a)) :
  Calls Tryz.prog 221 #[.pointer<|some ⟨b,0,af⟩] w λe w'=>e=.returned (.string ⟨#[]⟩)/\zp af w w':=by
 have mixed:=XA;have c1:w.drew.cell? ⟨b,1,af⟩=aa (.slice (aa ⟨g,0,af⟩) 0 a):=d;have f:∀(W:World) q,(Builtin.unsafeString_ #[273,3] 9 #[.pointer q,.int .i64 0]).run Tryz.prog W=.ok (.string .empty) W:=λW q=>Lib.run_unsafeString_none W _ _ _ q;have h:(Builtin.unsafeSliceData_ #[180] 273 #[.slice (aa ⟨g,0,af⟩) 0 a]).run Tryz.prog w.drew=.ok (.pointer<|some ⟨g,0,af⟩) w.drew:=Lib.run_unsafeSliceData_row _ _ _ _ _ _ c;clear c
 go_enter Tryz.func221,Tryz.ntmps221
 go_wp2
 go_region_o
 all_goals (go_wp2;go_ret;exact⟨rfl,(zp.refl _ w).drew⟩)
set_option maxHeartbeats 2000000 in
set_option maxRecDepth 100000 in
def ady(b:Nat)(w:World)(g n:Nat)(c:b<w.heap.size)(a:w.shape? g=aa (5,n))(d:w.cell? ⟨b,1,af⟩=aa (.slice (aa ⟨g,0,af⟩) 0 0)) :
  Calls Tryz.prog 221 #[.pointer<|some ⟨b,0,af⟩] w λe w'=>e=.returned (.string ⟨#[]⟩)/\zp af w w':=by
 have mixed:=XA;have c1:w.drew.cell? ⟨b,1,af⟩=aa (.slice (aa ⟨g,0,af⟩) 0 0):=d;have f:∀(W:World) q,(Builtin.unsafeString_ #[273,3] 9 #[.pointer q,.int .i64 0]).run Tryz.prog W=.ok (.string .empty) W:=λW q=>Lib.run_unsafeString_none W _ _ _ q;have h:(Builtin.unsafeSliceData_ #[180] 273 #[.slice (aa ⟨g,0,af⟩) 0 0]).run Tryz.prog w.drew=.ok (.pointer<|some ⟨w.drew.heap.size,0,af⟩) (w.drew.alloc<|.view ⟨g,0,af⟩ 5) :=
  Lib.run_unsafeSliceData_zero w.drew _ _ 5 Tryz.underlying273 ⟨g,0,af⟩ 0 (5,n) a
 have c2:(w.drew.alloc<|.view ⟨g,0,af⟩ 5).cell? ⟨b,1,af⟩=aa (.slice (aa ⟨g,0,af⟩) 0 0):=(dC<|cZ w.drew _ b c).trans c1;have c3:(w.alloc<|.view ⟨g,0,af⟩ 5).drew.cell? ⟨b,1,af⟩=aa (.slice (aa ⟨g,0,af⟩) 0 0):=c2;have i:w.cell? ⟨b,1,af⟩=aa (.slice (aa ⟨g,0,af⟩) 0 0):=c1
 go_enter Tryz.func221,Tryz.ntmps221
 go_wp2
 go_region_o
 all_goals (go_wp2;go_ret;exact⟨rfl,(zp.refl _ w).drew.alloc _⟩)
def AV:e8 Tryz.prog 221 (.str 203 5):=by
 refine⟨aej Tryz.func221 (by kernel_rfl)<|by kernel_rfl,λw b p v z l A k o=>?_⟩;have c1:w.cell? ⟨b,1,af⟩=aa v:=by rw[Lib.cell_of_heap k];rfl
 rcases o with ⟨rfl,rfl,rfl⟩|⟨g,a,f,q,rfl,rfl,m,r,B,s,t⟩
 .exact amK b w c1
 .have c:w.shape? g=aa (5,f.size):=by simp[World.shape?,m]
  by_cases i:l=[]
  .subst i;by_cases d:a=0
   .subst d;exact(ady b w g _ (A9.1 k).1 c c1).mono λe w' h=>⟨h.1,h.2.weaken⟩
   .exact(aky b w g a d c1).mono λe w' h=>⟨h.1,h.2.weaken⟩
  .have n:0<l.length:=X9.2 i;have u:maxLen<=9223372036854775807:=aI;refine(akx b w g a l i c1 ai c ai ai λj x y=>?_).mono ?_
   .rw[Ge.addr_add,Lib.cell_of_heap m,Gq];exact t j x y
   .rintro e w' ⟨rfl,rfl⟩;exact⟨rfl,(zp.refl _ w).drew.freeze _⟩
end Go.Proofs.YtcebnmppipejfaaGreatDoor
