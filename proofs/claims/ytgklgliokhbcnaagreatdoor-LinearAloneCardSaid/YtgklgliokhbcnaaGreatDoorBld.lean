import Derived.Test.YtgklgliokhbcnaaGreatDoorRows
import Derived.Test.YtgklgliokhbcnaaGreatDoorGeI
import Derived.Lib.Walk
import Derived.Lib.Builder
import Derived.Lib.UnsafeStr
import Derived.Laws.Externs
set_option linter.unusedVariables false
set_option linter.unusedSimpArgs false
set_option linter.unusedSectionVars false
set_option linter.defProp false
open Option renaming some->aa,none->af
namespace Go.Proofs.YtgklgliokhbcnaaGreatDoor
open Go Go.Ge Go.Shelf Go.RowKit Go.Lib
def Ti:Tryz.prog.follows .mixedOrders=true:=by kernel_rfl
def aan:∃j,Tryz.prog.info? 244=aa j/\j.size=2:=El.1 (show(Tryz.prog.info? 244).map (·.size)=aa 2 by kernel_rfl)
set_option maxHeartbeats 1000000 in
set_option maxRecDepth 100000 in
def afX(b:Nat)(w:World)(d:w.cell? ⟨b,0,af⟩=aa (.pointer<|some ⟨b,0,af⟩)) :
  Calls Tryz.prog 343 #[.pointer<|some ⟨b,0,af⟩] w λe w'=>e=.returned (.tuple #[])/\w'=w:=by
 obtain⟨j,a,c⟩:=aan
 go_enter Tryz.func343,Tryz.ntmps343
 go_wp2
 rw[Lib.run_neq_ptr_same w _ Tryz.underlying242 a]
 go_wp2
 go_end0
 exact⟨rfl,rfl⟩
set_option maxHeartbeats 1000000 in
set_option maxRecDepth 100000 in
def acE(b:Nat)(w:World)(g:w.cell? ⟨b,0,af⟩=aa (.pointer af))(a:w.shape? b=aa (244,2))(f:w.frozen? ⟨b,0,af⟩=false) :
  Calls Tryz.prog 343 #[.pointer<|some ⟨b,0,af⟩] w λe w'=>e=.returned (.tuple #[])/\w'=w.setCell ⟨b,0,af⟩ (.pointer<|some ⟨b,0,af⟩):=by
 obtain⟨j,d,c⟩:=aan
 go_enter Tryz.func343,Tryz.ntmps343
 go_wp2
 rw[Lib.run_to_unsafe w ⟨b,0,af⟩ Tryz.underlying242 Tryz.underlying388 d (by rw[c];decide) a<|Nat.zero_lt_succ 1];simp only[Result.andThen];rw[Oper.upon_value]
 go_wp2
 rw[run_callFunc_extern Tryz.func413 (by kernel_rfl) (by kernel_rfl) (by kernel_rfl) (e:=Extern.AbiNoEscape.same)<|by kernel_rfl];rw[Lib.run_noEscape];simp only[Result.andThen];rw[Oper.upon_value]
 go_wp2
 rw[Lib.run_from_unsafe w ⟨b,0,af⟩ Tryz.underlying388 Tryz.underlying242 d a<|show liesAt Tryz.prog Tryz.prog.depth 244 (2 / Tryz.prog.cellsOf 244) 0 244 1=true by kernel_rfl];simp only[Result.andThen];rw[Oper.upon_value]
 go_wp2
 go_end0
 exact⟨rfl,rfl⟩
def wC:pA Tryz.prog 343 (.chk 244):=by
 refine⟨Zs Tryz.func343 (by kernel_rfl)<|by kernel_rfl,λw b p v f a c d=>?_⟩;rcases d with rfl|rfl
 .refine(acE b w (by rw[Lib.cell_of_heap a];rfl) (by simp[World.shape?,a])<|by simp[World.frozen?,a];omega).mono ?_;rintro e w' ⟨rfl,rfl⟩;exact⟨rfl,.inr (UX a)⟩
 .refine(afX b w<|by rw[Lib.cell_of_heap a];rfl).mono ?_;rintro e w' ⟨rfl,rfl⟩;exact⟨rfl,.inl rfl⟩
set_option maxHeartbeats 2000000 in
set_option maxRecDepth 100000 in
def afY(b:Nat)(w:World)(g c:Nat)(l:bg)(i:l≠[])(k:w.cell? ⟨b,1,af⟩=aa (.slice (aa ⟨g,0,af⟩) l.length c))(m:c≠0){a:Nat}(f:w.shape? g=aa (5,a))(n:l.length<=a)(h:l.length<=9223372036854775807)
  (d:∀j x,l[j]?=aa x->w.cell? ((⟨g,0,af⟩:Addr).add j)=aa (.int .u8 x.toNat)) :
  Calls Tryz.prog 266 #[.pointer<|some ⟨b,0,af⟩] w λe w'=>e=.returned (.string ⟨l.toArray⟩)/\w'=w.drew.freeze ⟨g,0,af⟩ l.length:=by
 have mixed:=Ti;have q:w.drew.cell? ⟨b,1,af⟩=aa (.slice (aa ⟨g,0,af⟩) l.length c):=k;have o:(Builtin.unsafeSliceData_ #[196] 327 #[.slice (aa ⟨g,0,af⟩) l.length c]).run Tryz.prog w.drew=.ok (.pointer<|some ⟨g,0,af⟩) w.drew:=Lib.run_unsafeSliceData_row _ _ _ _ _ _ m;have p:(Builtin.unsafeString_ #[327,3] 9 #[.pointer<|some ⟨g,0,af⟩,.int .i64 l.length]).run Tryz.prog w.drew=.ok (.string ⟨l.toArray⟩) (w.drew.freeze ⟨g,0,af⟩ l.length) :=
  Lib.run_unsafeString_row w.drew 327 3 9 5 Tryz.underlying327 (by kernel_rfl) g a f l i n h d
 go_enter Tryz.func266,Tryz.ntmps266
 go_wp2
 go_region_o
 all_goals (go_wp2;go_ret;exact⟨rfl,rfl⟩)
set_option maxHeartbeats 2000000 in
set_option maxRecDepth 100000 in
def ahP(b:Nat)(w:World)(a:w.cell? ⟨b,1,af⟩=aa (.slice af 0 0)) :
  Calls Tryz.prog 266 #[.pointer<|some ⟨b,0,af⟩] w λe w'=>e=.returned (.string ⟨#[]⟩)/\x6 af w w':=by
 have mixed:=Ti;have f:w.drew.cell? ⟨b,1,af⟩=aa (.slice af 0 0):=a;have c:∀(W:World) q,(Builtin.unsafeString_ #[327,3] 9 #[.pointer q,.int .i64 0]).run Tryz.prog W=.ok (.string .empty) W:=λW q=>Lib.run_unsafeString_none W _ _ _ q;have d:(Builtin.unsafeSliceData_ #[196] 327 #[.slice af 0 0]).run Tryz.prog w.drew=.ok (.pointer af) w.drew:=rfl
 go_enter Tryz.func266,Tryz.ntmps266
 go_wp2
 go_region_o
 all_goals (go_wp2;go_ret;exact⟨rfl,(x6.refl _ w).drew⟩)
set_option maxHeartbeats 2000000 in
set_option maxRecDepth 100000 in
def afZ(b:Nat)(w:World)(g a:Nat)(c:a≠0)(d:w.cell? ⟨b,1,af⟩=aa (.slice (aa ⟨g,0,af⟩) 0 a)) :
  Calls Tryz.prog 266 #[.pointer<|some ⟨b,0,af⟩] w λe w'=>e=.returned (.string ⟨#[]⟩)/\x6 af w w':=by
 have mixed:=Ti;have i:w.drew.cell? ⟨b,1,af⟩=aa (.slice (aa ⟨g,0,af⟩) 0 a):=d;have f:∀(W:World) q,(Builtin.unsafeString_ #[327,3] 9 #[.pointer q,.int .i64 0]).run Tryz.prog W=.ok (.string .empty) W:=λW q=>Lib.run_unsafeString_none W _ _ _ q;have h:(Builtin.unsafeSliceData_ #[196] 327 #[.slice (aa ⟨g,0,af⟩) 0 a]).run Tryz.prog w.drew=.ok (.pointer<|some ⟨g,0,af⟩) w.drew:=Lib.run_unsafeSliceData_row _ _ _ _ _ _ c;clear c
 go_enter Tryz.func266,Tryz.ntmps266
 go_wp2
 go_region_o
 all_goals (go_wp2;go_ret;exact⟨rfl,(x6.refl _ w).drew⟩)
set_option maxHeartbeats 2000000 in
set_option maxRecDepth 100000 in
def YO(b:Nat)(w:World)(g n:Nat)(d:b<w.heap.size)(a:w.shape? g=aa (5,n))(f:w.cell? ⟨b,1,af⟩=aa (.slice (aa ⟨g,0,af⟩) 0 0)) :
  Calls Tryz.prog 266 #[.pointer<|some ⟨b,0,af⟩] w λe w'=>e=.returned (.string ⟨#[]⟩)/\x6 af w w':=by
 have mixed:=Ti;have c:w.drew.cell? ⟨b,1,af⟩=aa (.slice (aa ⟨g,0,af⟩) 0 0):=f;have h:∀(W:World) q,(Builtin.unsafeString_ #[327,3] 9 #[.pointer q,.int .i64 0]).run Tryz.prog W=.ok (.string .empty) W:=λW q=>Lib.run_unsafeString_none W _ _ _ q;have i:(Builtin.unsafeSliceData_ #[196] 327 #[.slice (aa ⟨g,0,af⟩) 0 0]).run Tryz.prog w.drew=.ok (.pointer<|some ⟨w.drew.heap.size,0,af⟩) (w.drew.alloc<|.view ⟨g,0,af⟩ 5) :=
  Lib.run_unsafeSliceData_zero w.drew _ _ 5 Tryz.underlying327 ⟨g,0,af⟩ 0 (5,n) a
 have j:(w.drew.alloc<|.view ⟨g,0,af⟩ 5).cell? ⟨b,1,af⟩=aa (.slice (aa ⟨g,0,af⟩) 0 0):=(dH<|da w.drew _ b d).trans c;have c3:(w.alloc<|.view ⟨g,0,af⟩ 5).drew.cell? ⟨b,1,af⟩=aa (.slice (aa ⟨g,0,af⟩) 0 0):=j;have k:w.cell? ⟨b,1,af⟩=aa (.slice (aa ⟨g,0,af⟩) 0 0):=c
 go_enter Tryz.func266,Tryz.ntmps266
 go_wp2
 go_region_o
 all_goals (go_wp2;go_ret;exact⟨rfl,(x6.refl _ w).drew.alloc _⟩)
def zb:pA Tryz.prog 266 (.str 244 5):=by
 refine⟨Zs Tryz.func266 (by kernel_rfl)<|by kernel_rfl,λw b p v A l B m q=>?_⟩;have f:w.cell? ⟨b,1,af⟩=aa v:=by rw[Lib.cell_of_heap m];rfl
 rcases q with ⟨rfl,rfl,rfl⟩|⟨g,a,i,r,rfl,rfl,n,s,C,t,u⟩
 .exact ahP b w f
 .have c:w.shape? g=aa (5,i.size):=by simp[World.shape?,n]
  by_cases k:l=[]
  .subst k;by_cases d:a=0
   .subst d;exact(YO b w g _ (wL.1 m).1 c f).mono λe w' h=>⟨h.1,h.2.weaken⟩
   .exact(afZ b w g a d f).mono λe w' h=>⟨h.1,h.2.weaken⟩
  .have o:0<l.length:=TH.2 k;have y:maxLen<=9223372036854775807:=aD;refine(afY b w g a l k f ag c ag ag λj x z=>?_).mono ?_
   .rw[Ge.addr_add,Lib.cell_of_heap n,BD];exact u j x z
   .rintro e w' ⟨rfl,rfl⟩;exact⟨rfl,(x6.refl _ w).drew.freeze _⟩
end Go.Proofs.YtgklgliokhbcnaaGreatDoor
