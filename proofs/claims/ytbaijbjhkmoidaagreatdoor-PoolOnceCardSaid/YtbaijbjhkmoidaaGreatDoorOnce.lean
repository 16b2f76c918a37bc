/- sync.Once at this program's numbers: the parts of its slow road (steps of the kit's worked proof of a Once, turned to this program). -/
import Derived.Test.YtbaijbjhkmoidaaGreatDoorChecked
import Derived.Test.YtbaijbjhkmoidaaGreatDoorPlD
import Derived.BigCall
import Derived.Tactics2
import Derived.Defers
import Derived.Laws.Pointers
import Derived.Laws.LoneSync
import Derived.RegionTactic
import Derived.RegionCalls
import Derived.ChangeAlike
import Derived.Deep.RegionWith
set_option linter.unusedVariables false
set_option linter.unusedSimpArgs false
set_option linter.unusedSectionVars false
open Go.IntKind (u32)
namespace Go.Proofs.YtbaijbjhkmoidaaGreatDoor
open Go Go.Ge Go.RowKit
theorem disable(w:World):(callFunc 158 #[]).run Tryz.prog w=.ok (.value<|.tuple #[]) w:=run_call_mark0 Tryz.func158 (by kernel_rfl) (by kernel_rfl) (by kernel_rfl) .disable (by kernel_rfl) w
theorem enable(w:World):(callFunc 160 #[]).run Tryz.prog w=.ok (.value<|.tuple #[]) w:=run_call_mark0 Tryz.func160 (by kernel_rfl) (by kernel_rfl) (by kernel_rfl) .enable (by kernel_rfl) w
theorem acquire(a:Addr)(w:World):(callFunc 161 #[.pointer<|some a]).run Tryz.prog w=.ok (.value<|.tuple #[]) w:=run_call_marked Tryz.func161 (by kernel_rfl) (by kernel_rfl) (by kernel_rfl) .acquire (by kernel_rfl) a w
theorem releaseMerge(a:Addr)(w:World):(callFunc 163 #[.pointer<|some a]).run Tryz.prog w=.ok (.value<|.tuple #[]) w:=run_call_marked Tryz.func163 (by kernel_rfl) (by kernel_rfl) (by kernel_rfl) .releaseMerge (by kernel_rfl) a w
set_option maxRecDepth 100000 in
set_option maxHeartbeats 1600000 in
theorem yJ(a:Addr)(x:Value)(u:FrameMode)(w:World)(g:w.cell? a=some x)(h:w.frozen? a=false) :
  CallsD Tryz.prog 114 #[.pointer<|some a,.bool true] u w λe d w'=>d=u/\(e=.returned (.tuple #[])/\w'=w.drew.setCell a (.int .u32 1)):=by
 have b:w.drew.cell? a=some x:=by go_simp
 have c:w.drew.frozen? a=false:=by go_simp
 have f:=run_call_store (P:=Tryz.prog) Tryz.func140 (by kernel_rfl) (by kernel_rfl) (by kernel_rfl) (by kernel_rfl) (k:=.u32) (y:=1) b c
 go_enter_d Tryz.func114,Tryz.ntmps114
 go_wp2
 go_region_calls
 all_goals (go_end0;exact⟨rfl,rfl⟩)
set_option maxRecDepth 100000 in
set_option maxHeartbeats 1600000 in
theorem vW(a:Addr)(u:FrameMode)(w:World)(b:w.cell? a=some (.int .i32 1))(d:w.frozen? a=false) :
  CallsD Tryz.prog 113 #[.pointer<|some a] u w λe f w'=>f=u/\(e=.returned (.tuple #[])/\w'=w.setCell a (.int .i32 0)):=by
 have h:=disable;have i:=enable;have j:=releaseMerge;have c:=run_call_add (P:=Tryz.prog) Tryz.func164 (by kernel_rfl) (by kernel_rfl) (by kernel_rfl) .i32 (by kernel_rfl) (y:=-1) (s:=0) b d (by simp[go_sem];rfl);have g:=run_convert_to_unsafe (P:=Tryz.prog) (src:=244) (dst:=242) Tryz.underlying244 Tryz.underlying242 (by kernel_rfl) b
 go_enter_d Tryz.func113,Tryz.ntmps113
 go_wp2
 go_end0
 go_wp2
 go_end0
 exact⟨rfl,rfl⟩
set_option maxRecDepth 100000 in
set_option maxHeartbeats 1600000 in
theorem IJ(a:Addr)(w:World)(c:w.cell? a=some (.int .i32 0))(f:w.frozen? a=false) :
  Calls Tryz.prog 112 #[.pointer<|some a] w λe w'=>e=.returned (.tuple #[])/\w'=w.setCell a (.int .i32 1):=by
 have h:=disable;have i:=enable;have j:=acquire;have d:=run_call_cas_hit (P:=Tryz.prog) Tryz.func159 (by kernel_rfl) (by kernel_rfl) (by kernel_rfl) .i32 (by kernel_rfl) (y:=1) c f;have b:(w.setCell a<|.int .i32 1).cell? a=some (.int .i32 1):=World.cell?_setCell_same w a _ c;have g:=run_convert_to_unsafe (P:=Tryz.prog) (src:=244) (dst:=242) Tryz.underlying244 Tryz.underlying242 (by kernel_rfl) b
 go_enter Tryz.func112,Tryz.ntmps112
 go_wp2
 first|go_end0|(simp only[Exit.inBlock,Exit.then];refine bodyPost_ret (results_none rfl _ _ _) rfl ?_)|refine bodyPost_ret (results_none rfl _ _ _) rfl ?_
 go_wp2
 go_end0
 exact⟨rfl,rfl⟩
set_option maxRecDepth 100000 in
set_option maxHeartbeats 1600000 in
theorem zL(b:Nat)(c:Addr)(s t:aE)(o:Value)(w:World)(d:b<w.heap.size)(i:c.block<w.heap.size)(j:¬b=c.block)(r:w.cell? c=some (.pointer<|some ⟨b,0,none⟩))
  (k:Calls Tryz.prog 53 #[.string ⟨s.toArray⟩] w.drew λe w'=>e=.returned (.string ⟨t.toArray⟩)/\Below (w.drew).heap.size (w.drew) w')
  (u:w.cell? ⟨b,0,none⟩=some (.string ⟨s.toArray⟩)) (v:w.cell? ⟨b,4,none⟩=some o) (x:w.cell? ⟨b,5,none⟩=some (.int .i64 0))
  (z:w.frozen? ⟨b,4,none⟩=false) (A:w.frozen? ⟨b,5,none⟩=false) :
  Calls Tryz.prog 55 #[.pointer<|some c] w λe w'=>e=.returned (.tuple #[])/\∃p,Below w.heap.size w p/\w'=(p.setCell ⟨b,4,none⟩<|.string ⟨t.toArray⟩).setCell ⟨b,5,none⟩ (.int .i64 1):=by
 have B:w.drew.cell? c=some (.pointer<|some ⟨b,0,none⟩):=by go_simp
 have C:w.drew.cell? ⟨b,0,none⟩=some (.string ⟨s.toArray⟩):=by go_simp
 have f:Calls Tryz.prog 53 #[.string ⟨s.toArray⟩] w.drew λe w'=>e=.returned (.string ⟨t.toArray⟩)/\Below w.heap.size w w'/\w'.cell? ⟨b,4,none⟩=some o/\w'.frozen? ⟨b,4,none⟩=false/\w'.cell? c=some (.pointer<|some ⟨b,0,none⟩)/\w'.cell? ⟨b,0,none⟩=some (.string ⟨s.toArray⟩):=by
  refine k.mono ?_;rintro e w' ⟨rfl,a⟩;have a:Below w.heap.size w w':=⟨a.os,a.tape,a.output,a.size,a.block⟩;exact⟨rfl,a,(a.cell d).trans v,(a.frozen d).trans z,(a.cell i).trans r,(a.cell d).trans u⟩
 go_enter Tryz.func55,Tryz.ntmps55
 go_wp2
 go_region_with (go_at_call 53;refine f.mono ?_;rintro e w' ⟨rfl,a,D,E,l,F⟩)
 all_goals
  have m:(w'.setCell ⟨b,4,none⟩<|.string ⟨t.toArray⟩).cell? ⟨b,5,none⟩=some (.int .i64 0):=(World.cell?_setCell_other _ ⟨b,4,none⟩ ⟨b,5,none⟩ _<|by simp).trans ((a.cell d).trans x);have g:w'.frozen? ⟨b,5,none⟩=false:=(a.frozen d).trans A;have n:(w'.setCell ⟨b,4,none⟩<|.string ⟨t.toArray⟩).frozen? ⟨b,5,none⟩=false:=by simp[g]
  have G:(w'.setCell ⟨b,4,none⟩<|.string ⟨t.toArray⟩).cell? c=some (.pointer<|some ⟨b,0,none⟩):=(World.cell?_setCell_other _ ⟨b,4,none⟩ c _ λh=>j (by rw[<-h])).trans l;have q:=run_call_add (P:=Tryz.prog) Tryz.func81 (by kernel_rfl) (by kernel_rfl) (by kernel_rfl) .i64 (by kernel_rfl) (y:=1) (s:=1) m n (by simp[go_sem];rfl)
  go_wp2
  go_end0
  exact⟨rfl,w',a,rfl⟩
theorem Lv(a:Addr)(d:Int)(w:World)(b:w.cell? a=some (.int .u32 d)):Calls Tryz.prog 79 #[.pointer<|some a] w λe w'=>e=.returned (.bool<|d != 0)/\w'=w:=by
 have c:=run_call_load (P:=Tryz.prog) Tryz.func111 (by kernel_rfl) (by kernel_rfl) (by kernel_rfl) .u32 (by kernel_rfl) b
 go_enter Tryz.func79,Tryz.ntmps79
 go_wp2
 go_ret
 exact⟨rfl,rfl⟩
set_option maxRecDepth 100000 in
set_option maxHeartbeats 1600000 in
theorem F4(b:Nat)(i:Addr)(s t:aE)(y:Value)(w:World)(n:b<w.heap.size)(o:i.block<w.heap.size)(l:¬b=i.block)(E:w.cell? i=some (.pointer<|some ⟨b,0,none⟩))
  (q:Calls Tryz.prog 53 #[.string ⟨s.toArray⟩] (w.setCell ⟨b,2,none⟩<|.int .i32 1).drew λe w'=>e=.returned (.string ⟨t.toArray⟩)/\Below ((w.setCell ⟨b,2,none⟩<|.int .i32 1).drew).heap.size ((w.setCell ⟨b,2,none⟩<|.int .i32 1).drew) w')
  (F:w.cell? ⟨b,0,none⟩=some (.string ⟨s.toArray⟩)) (r:w.cell? ⟨b,1,none⟩=some (.int .u32 0)) (G:w.cell? ⟨b,2,none⟩=some (.int .i32 0)) (A:w.cell? ⟨b,4,none⟩=some y) (B:w.cell? ⟨b,5,none⟩=some (.int .i64 0))
  (H:w.frozen? ⟨b,1,none⟩=false) (I:w.frozen? ⟨b,2,none⟩=false) (J:w.frozen? ⟨b,4,none⟩=false) (K:w.frozen? ⟨b,5,none⟩=false) :
  Calls Tryz.prog 80 #[.pointer<|some ⟨b,1,none⟩,.func (.func 55) #[] #[.pointer<|some i]] w λe w'=>e=.returned (.tuple #[]) /\
   ∃g,Below w.heap.size (w.setCell ⟨b,2,none⟩<|.int .i32 1) g/\w'=((((g.setCell ⟨b,4,none⟩<|.string ⟨t.toArray⟩).setCell ⟨b,5,none⟩<|.int .i64 1).drew.setCell ⟨b,1,none⟩<|.int .u32 1).setCell ⟨b,2,none⟩<|.int .i32 0):=by
 have k:(w.setCell ⟨b,2,none⟩<|.int .i32 1).heap.size=w.heap.size:=by simp
 have c:∀j,j≠2->(w.setCell ⟨b,2,none⟩<|.int .i32 1).cell? ⟨b,j,none⟩=w.cell? ⟨b,j,none⟩:=λj M=>World.cell?_setCell_other _ ⟨b,2,none⟩ ⟨b,j,none⟩ _ (by simp<;>omega);have N:=run_call_load (P:=Tryz.prog) Tryz.func111 (by kernel_rfl) (by kernel_rfl) (by kernel_rfl) .u32 (by kernel_rfl) (w:=w.setCell ⟨b,2,none⟩ (.int .i32 1)) (a:=⟨b,1,none⟩) (x:=0) ((c 1<|by decide).trans r);have u:(w.setCell ⟨b,2,none⟩<|.int .i32 1).cell? i=some (.pointer<|some ⟨b,0,none⟩):=(World.cell?_setCell_other _ ⟨b,2,none⟩ i _ λh=>l (by rw[<-h])).trans E;have C:∀(x:Bool) (w:World),(Op.unary .not<|.bool x).run Tryz.prog w=.ok (.bool<|!x) w:=λ_ _=>rfl;have m:=zL b i s t y (w.setCell ⟨b,2,none⟩<|.int .i32 1) (by rw[k];exact n) (by rw[k];exact o) l u q ((c 0<|by decide).trans F) ((c 4<|by decide).trans A) ((c 5<|by decide).trans B) (by simp[J]) (by simp[K])
 go_enter_defers Tryz.func80,Tryz.ntmps80
 go_wp2_with (go_at_call 112;refine(IJ ⟨b,2,none⟩ _ (by go_simp)<|by go_simp).mono ?_;rintro e w' ⟨rfl,rfl⟩)
 go_wp2_with (first|(go_at_call 79;refine(Lv ⟨b,1,none⟩ 0 _<|(c 1<|by decide).trans r).mono ?_;rintro e w' ⟨rfl,rfl⟩)|(go_at_call 55;refine m.mono ?_;rintro e w' ⟨rfl,g,d,rfl⟩))
 have D:∀j,j≠4->j≠5->((g.setCell ⟨b,4,none⟩<|.string ⟨t.toArray⟩).setCell ⟨b,5,none⟩<|.int .i64 1).cell? ⟨b,j,none⟩=g.cell? ⟨b,j,none⟩:=λj A B =>
  (World.cell?_setCell_other _ ⟨b,5,none⟩ ⟨b,j,none⟩ _<|by simp<;>omega).trans (World.cell?_setCell_other _ ⟨b,4,none⟩ ⟨b,j,none⟩ _<|by simp<;>omega)
 rw[k] at d;have z:∀j,g.frozen? ⟨b,j,none⟩=w.frozen? ⟨b,j,none⟩:=λj=>(d.frozen (p:=⟨b,j,none⟩) n).trans (by simp);have w1:g.cell? ⟨b,1,none⟩=some (.int .u32 0):=(d.cell (p:=⟨b,1,none⟩) n).trans ((c 1<|by decide).trans r);have w2:g.cell? ⟨b,2,none⟩=some (.int .i32 1):=(d.cell (p:=⟨b,2,none⟩) n).trans (World.cell?_setCell_same w _ _ G);try go_wp2
 refine leaves_cons (f:=114) (args:=#[.pointer<|some ⟨b,1,none⟩,.bool true]) (by simp) (by simp[go_sem]) ?_;refine(yJ ⟨b,1,none⟩ (.int .u32 0) .returning _ ((D 1 (by decide)<|by decide).trans w1)<|by simp[z,H]).mono ?_;rintro e L v ⟨rfl,rfl,rfl⟩;refine leaves_cons (f:=113) (args:=#[.pointer<|some ⟨b,2,none⟩]) (by simp[settle]) (by simp[go_sem]) ?_;refine(vW ⟨b,2,none⟩ _ _ ?_<|by simp[z,I]).mono ?_
 .refine(World.cell?_setCell_other _ ⟨b,1,none⟩ ⟨b,2,none⟩ _<|by simp).trans ?_;rw[World.cell?_drew];exact(D 2 (by decide)<|by decide).trans w2
 rintro e L v ⟨rfl,rfl,rfl⟩;simp[Leaves,settle,results,Tryz.results80];exact⟨g,d,rfl⟩
set_option maxRecDepth 100000 in
set_option maxHeartbeats 1600000 in
theorem Lw(b:Nat)(a:Addr)(s t:aE)(g:Value)(w:World)(k:b<w.heap.size)(c:a.block<w.heap.size)(d:¬b=a.block)(l:w.cell? a=some (.pointer<|some ⟨b,0,none⟩))
  (f:Calls Tryz.prog 53 #[.string ⟨s.toArray⟩] (w.setCell ⟨b,2,none⟩<|.int .i32 1).drew λe w'=>e=.returned (.string ⟨t.toArray⟩)/\Below ((w.setCell ⟨b,2,none⟩<|.int .i32 1).drew).heap.size ((w.setCell ⟨b,2,none⟩<|.int .i32 1).drew) w')
  (m:w.cell? ⟨b,0,none⟩=some (.string ⟨s.toArray⟩)) (h:w.cell? ⟨b,1,none⟩=some (.int .u32 0)) (n:w.cell? ⟨b,2,none⟩=some (.int .i32 0)) (o:w.cell? ⟨b,4,none⟩=some g) (p:w.cell? ⟨b,5,none⟩=some (.int .i64 0))
  (q:w.frozen? ⟨b,1,none⟩=false) (r:w.frozen? ⟨b,2,none⟩=false) (u:w.frozen? ⟨b,4,none⟩=false) (v:w.frozen? ⟨b,5,none⟩=false) :
  Calls Tryz.prog 54 #[.pointer<|some ⟨b,1,none⟩,.func (.func 55) #[] #[.pointer<|some a]] w λe w'=>e=.returned (.tuple #[]) /\
   ∃i,Below w.heap.size (w.setCell ⟨b,2,none⟩<|.int .i32 1) i/\w'=((((i.setCell ⟨b,4,none⟩<|.string ⟨t.toArray⟩).setCell ⟨b,5,none⟩<|.int .i64 1).drew.setCell ⟨b,1,none⟩<|.int .u32 1).setCell ⟨b,2,none⟩<|.int .i32 0):=by
 have j:∀(x:Bool) (w:World),(Op.unary .not<|.bool x).run Tryz.prog w=.ok (.bool<|!x) w:=λ_ _=>rfl
 go_enter Tryz.func54,Tryz.ntmps54
 go_wp2_with (first|(go_at_call 80;refine(F4 b a s t g _ k c d l f m h n o p q r u v).mono ?_;rintro e w' ⟨rfl,hx⟩)|(go_at_call 79;refine(Lv ⟨b,1,none⟩ 0 _ h).mono ?_;rintro e w' ⟨rfl,rfl⟩))
 go_end0
 exact⟨rfl,hx⟩
theorem MY(a:Addr)(d:Int)(h:¬d=0)(i:Value)(w:World)(j:w.cell? a=some (.int .u32 d))(b:Nat)(k:a=⟨b,1,none⟩) :
  Calls Tryz.prog 54 #[.pointer<|some a,i] w λe w'=>e=.returned (.tuple #[])/\w'=w:=by
 subst k;have f:∀(x:Bool) (w:World),(Op.unary .not<|.bool x).run Tryz.prog w=.ok (.bool<|!x) w:=λ_ _=>rfl;have c:(d != 0)=true:=by simp[h]
 have g:=Lv ⟨b,1,none⟩ d w j;rw[c] at g
 go_enter Tryz.func54,Tryz.ntmps54
 go_wp2_with (go_at_call 79;refine g.mono ?_;rintro e w' ⟨rfl,rfl⟩)
 go_end0
 exact⟨rfl,rfl⟩
set_option maxRecDepth 100000 in
set_option maxHeartbeats 1600000 in
theorem F5(b:Nat)(s t:aE)(l:Value)(w:World)(o:b<w.heap.size)
  (m:Calls Tryz.prog 53 #[.string ⟨s.toArray⟩] ((w.alloc<|.cells #[.pointer<|some ⟨b,0,none⟩] 76).setCell ⟨b,2,none⟩<|.int .i32 1).drew λe w'=>e=.returned (.string ⟨t.toArray⟩)/\Below (((w.alloc<|.cells #[.pointer<|some ⟨b,0,none⟩] 76).setCell ⟨b,2,none⟩<|.int .i32 1).drew).heap.size (((w.alloc<|.cells #[.pointer<|some ⟨b,0,none⟩] 76).setCell ⟨b,2,none⟩<|.int .i32 1).drew) w')
  (v:w.cell? ⟨b,0,none⟩=some (.string ⟨s.toArray⟩)) (x:w.cell? ⟨b,1,none⟩=some (.int .u32 0)) (y:w.cell? ⟨b,2,none⟩=some (.int .i32 0)) (q:w.cell? ⟨b,4,none⟩=some l) (z:w.cell? ⟨b,5,none⟩=some (.int .i64 0))
  (A:w.frozen? ⟨b,1,none⟩=false) (B:w.frozen? ⟨b,2,none⟩=false) (C:w.frozen? ⟨b,4,none⟩=false) (D:w.frozen? ⟨b,5,none⟩=false) :
  Calls Tryz.prog 32 #[.pointer<|some ⟨b,0,none⟩] w λe w'=>e=.returned (.string ⟨t.toArray⟩) /\
   ∃d,Below (w.heap.size+1) ((w.alloc<|.cells #[.pointer<|some ⟨b,0,none⟩] 76).setCell ⟨b,2,none⟩<|.int .i32 1) d/\w'=((((d.setCell ⟨b,4,none⟩<|.string ⟨t.toArray⟩).setCell ⟨b,5,none⟩<|.int .i64 1).drew.setCell ⟨b,1,none⟩<|.int .u32 1).setCell ⟨b,2,none⟩<|.int .i32 0):=by
 have E:∀(fn:Fn) (first cap:Array Value) (w:World),(Instr.makeFunc fn first cap).run Tryz.prog w=.ok (.func fn first cap) w:=λ_ _ _ _=>rfl
 let a:=w.alloc (.cells #[.pointer<|some ⟨b,0,none⟩] 76)
 have f:a.heap.size=w.heap.size+1:=by simp[a]
 have g:∀j,a.cell? ⟨b,j,none⟩=w.cell? ⟨b,j,none⟩:=λj=>World.cell?_alloc_past _ _ _ o;have k:∀j,a.frozen? ⟨b,j,none⟩=w.frozen? ⟨b,j,none⟩:=λj=>World.frozen?_alloc_past _ _ _ o;have r:a.cell? ⟨w.heap.size,0,none⟩=some (.pointer<|some ⟨b,0,none⟩):=by simp[a]
 have n:=Lw b ⟨w.heap.size,0,none⟩ s t l a (by rw[f];omega) (by rw[f];simp) (by simp;omega) r m ((g 0).trans v) ((g 1).trans x) ((g 2).trans y) ((g 4).trans q) ((g 5).trans z) ((k 1).trans A) ((k 2).trans B) ((k 4).trans C) ((k 5).trans D);have nb:∀j:Nat,(⟨b,j,none⟩:Addr)≠⟨w.heap.size,0,none⟩:=λj h=>by
  have:=congrArg Addr.block h;simp at this;omega
 have i:Calls Tryz.prog 54 #[.pointer<|some ⟨b,1,none⟩,.func (.func 55) #[] #[.pointer<|some ⟨w.heap.size,0,none⟩]] a λe w'=>e=.returned (.tuple #[]) /\
   (∃d,Below (w.heap.size+1) (a.setCell ⟨b,2,none⟩<|.int .i32 1) d/\w'=((((d.setCell ⟨b,4,none⟩<|.string ⟨t.toArray⟩).setCell ⟨b,5,none⟩<|.int .i64 1).drew.setCell ⟨b,1,none⟩<|.int .u32 1).setCell ⟨b,2,none⟩<|.int .i32 0)) /\
   w'.cell? ⟨w.heap.size,0,none⟩=some (.pointer<|some ⟨b,0,none⟩)/\w'.cell? ⟨b,4,none⟩=some (.string ⟨t.toArray⟩):=by
  refine n.mono ?_;rintro e w' ⟨rfl,d,c,rfl⟩;rw[f] at c;refine⟨rfl,⟨d,c,rfl⟩,?_,?_⟩
  .rw[World.cell?_setCell_other _ _ _ _<|nb _,World.cell?_setCell_other _ _ _ _ (nb _),World.cell?_drew,World.cell?_setCell_other _ _ _ _ (nb _),World.cell?_setCell_other _ _ _ _ (nb _),c.cell (p:=⟨w.heap.size,0,none⟩) (by simp),World.cell?_setCell_other _ _ _ _ (nb _)];exact r
  .rw[World.cell?_setCell_other _ ⟨b,2,none⟩ ⟨b,4,none⟩ _<|by simp,World.cell?_setCell_other _ ⟨b,1,none⟩ ⟨b,4,none⟩ _ (by simp),World.cell?_drew,World.cell?_setCell_other _ ⟨b,5,none⟩ ⟨b,4,none⟩ _ (by simp)];refine World.cell?_setCell_same _ _ _ (u:=l) ?_;rw[c.cell (p:=⟨b,4,none⟩)<|by simp;omega,World.cell?_setCell_other _ ⟨b,2,none⟩ ⟨b,4,none⟩ _ (by simp)];exact(g 4).trans q
 go_enter Tryz.func32,Tryz.ntmps32
 go_wp2_with (go_at_call 54;refine i.mono ?_;rintro e w' ⟨rfl,hx,F,G⟩)
 go_ret
 exact⟨rfl,hx⟩
set_option maxRecDepth 100000 in
set_option maxHeartbeats 1600000 in
theorem F6(b:Nat)(d:Int)(c:¬d=0)(t:aE)(w:World)(a:b<w.heap.size)
  (f:w.cell? ⟨b,1,none⟩=some (.int .u32 d)) (g:w.cell? ⟨b,4,none⟩=some (.string ⟨t.toArray⟩)) :
  Calls Tryz.prog 32 #[.pointer<|some ⟨b,0,none⟩] w λe w'=>e=.returned (.string ⟨t.toArray⟩)/\w'=w.alloc (.cells #[.pointer<|some ⟨b,0,none⟩] 76):=by
 have h:∀(fn:Fn) (first cap:Array Value) (w:World),(Instr.makeFunc fn first cap).run Tryz.prog w=.ok (.func fn first cap) w:=λ_ _ _ _=>rfl;have i:(w.alloc<|.cells #[.pointer<|some ⟨b,0,none⟩] 76).cell? ⟨b,1,none⟩=some (.int .u32 d):=(World.cell?_alloc_past _ _ _ a).trans f;have j:(w.alloc<|.cells #[.pointer<|some ⟨b,0,none⟩] 76).cell? ⟨b,4,none⟩=some (.string ⟨t.toArray⟩):=(World.cell?_alloc_past _ _ _ a).trans g;have k:(w.alloc<|.cells #[.pointer<|some ⟨b,0,none⟩] 76).cell? ⟨w.heap.size,0,none⟩=some (.pointer<|some ⟨b,0,none⟩):=by simp
 go_enter Tryz.func32,Tryz.ntmps32
 go_wp2_with (go_at_call 54;refine(MY ⟨b,1,none⟩ d c _ _ i b rfl).mono ?_;rintro e w' ⟨rfl,rfl⟩)
 go_ret
 exact⟨rfl,rfl⟩
abbrev Ej:OT:=(.pair (.bW .str)<|.pair (.bW<|.pair .unit<|.pair (.pair .unit<|.pair (.int .u32) .unit)<|.pair (.pair .unit<|.pair (.pair (.int .i32)<|.pair (.int .u32) .unit) .unit) .unit)<|.pair (.bW .str)<|.pair (.bW<|.pair .unit<|.pair .unit<|.pair (.int .i64) .unit) .unit)
abbrev rS:=aE×(ah×(ah×Int×ah)×(ah×(Int×Int×ah)×ah)×ah)×aE×(ah×ah×Int×ah)×ah
def pB(o:rS):List Value:=[.string ⟨o.1.toArray⟩,.int .u32 o.2.1.2.1.2.1,.int .i32 o.2.1.2.2.1.2.1.1,.int .u32 o.2.1.2.2.1.2.1.2.1,.string ⟨o.2.2.1.toArray⟩,.int .i64 o.2.2.2.1.2.2.1]
structure Ci (o:rS):Prop where
 bytes:o.1.length<=maxLen
 text:o.2.2.1.length<=maxLen
 done:IntKind.u32.min<=o.2.1.2.1.2.1/\o.2.1.2.1.2.1<=IntKind.u32.max
 state:IntKind.i32.min<=o.2.1.2.2.1.2.1.1/\o.2.1.2.2.1.2.1.1<=IntKind.i32.max
 Ol:IntKind.u32.min<=o.2.1.2.2.1.2.1.2.1/\o.2.1.2.2.1.2.1.2.1<=IntKind.u32.max
 made:IntKind.i64.min<=o.2.2.2.1.2.2.1/\o.2.2.2.1.2.2.1<=IntKind.i64.max
theorem Lx{w:World}{I:Nat->Nat->Prop}{o:rS}{e:List Value}{f:List Nat}{g:List (Option<|Nat×Nat)}(h:mh w I Ej o e f g):e=pB o/\f=[]/\g=[]/\Ci o:=by
 obtain⟨B,C,D,i,E,j,rfl,rfl,rfl,⟨⟨rfl,k⟩,rfl,rfl⟩,h⟩:=h;obtain⟨F,G,H,l,J,m,rfl,rfl,rfl,⟨n,rfl,rfl⟩,h⟩:=h;obtain⟨K,L,M,p,N,q,rfl,rfl,rfl,⟨⟨rfl,r⟩,rfl,rfl⟩,h⟩:=h;obtain⟨O,P,Q,s,R,t,rfl,rfl,rfl,⟨u,rfl,rfl⟩,rfl,rfl,rfl⟩:=h;obtain⟨S,T,rfl,rfl,U,V,rfl,⟨W,X,rfl,rfl,Y,Z,rfl,⟨rfl,v,x⟩,rfl⟩,e9,y,rfl,⟨m1,m2,rfl,rfl,m3,m4,rfl,⟨s1,s2,rfl,⟨rfl,a,b⟩,s3,s4,rfl,⟨rfl,c,d⟩,rfl⟩,rfl⟩,rfl⟩:=n;obtain⟨a1,a2,rfl,rfl,a3,a4,rfl,rfl,a5,a6,rfl,⟨rfl,z,A⟩,rfl⟩:=u;exact⟨rfl,rfl,rfl,k,r,⟨v,x⟩,⟨a,b⟩,⟨c,d⟩,z,A⟩
theorem LA(w:World)(I:Nat->Nat->Prop){o:rS}(k:Ci o):mh w I Ej o (pB o) [] [] :=
 ⟨[_],[_,_,_,_,_],[],[],[],[],rfl,rfl,rfl,⟨⟨rfl,k.bytes⟩,rfl,rfl⟩,
  [_,_,_],[_,_],[],[],[],[],rfl,rfl,rfl,⟨⟨[],[_,_,_],rfl,rfl,[_],[_,_],rfl,⟨[],[_],rfl,rfl,[_],[],rfl,⟨rfl,k.done.1,k.done.2⟩,rfl⟩,[_,_],[],rfl,⟨[],[_,_],rfl,rfl,[_,_],[],rfl,⟨[_],[_],rfl,⟨rfl,k.state.1,k.state.2⟩,[_],[],rfl,⟨rfl,k.Ol.1,k.Ol.2⟩,rfl⟩,rfl⟩,rfl⟩,rfl,rfl⟩,
  [_],[_],[],[],[],[],rfl,rfl,rfl,⟨⟨rfl,k.text⟩,rfl,rfl⟩,
  [_],[],[],[],[],[],rfl,rfl,rfl,⟨⟨[],[_],rfl,rfl,[],[_],rfl,rfl,[_],[],rfl,⟨rfl,k.made.1,k.made.2⟩,rfl⟩,rfl,rfl⟩,rfl,rfl,rfl⟩
theorem Om{w:World}{b:Nat}{o:rS}{a:Array Value}{T:TypeId}{d:Nat×Nat}(h:w.heap[b]?=some (.cells a T d))(e:a.toList=pB o)(f:iD a d) :
  (∀j v,(pB o)[j]?=some v->w.cell? ⟨b,j,none⟩=some v)/\(∀j,j<6->w.frozen? ⟨b,j,none⟩=false)/\b<w.heap.size:=by
 refine⟨λj v c=>?_,λj c=>?_,(oc.1 h).1⟩
 .rw[<-e] at c;simp only[World.cell?,h];simpa using c
 .have:=f j (by rw[<-Cy,e];exact c);simp only[World.frozen?,h];simp only[Nc,Jd];omega
theorem qR{w:World}{b i:Nat}{a:Array Value}{T:TypeId}{c:Nat×Nat}(v:Value)(h:w.heap[b]?=some (.cells a T c)):(w.setCell ⟨b,i,none⟩ v).heap[b]?=some (.cells (a.setIfInBounds i v) T c):=by
 rw[setCell_eq_setRow w b i a T c v h];exact setRow_heap w b a _ T c h
theorem rn(w:World){b i k:Nat}(v:Value)(h:k≠b):(w.setCell ⟨b,i,none⟩ v).heap[k]?=w.heap[k]?:=by
 simp[World.setCell,I6,wM h]
theorem oQ(w:World)(o:Obj){k:Nat}(h:k<w.heap.size):(w.alloc o).heap[k]?=w.heap[k]?:=by
 show(w.heap.push o)[k]?=_
 rw[Array.getElem?_push,bp (Nat.ne_of_lt h)]
theorem Pu{w:World}{I:Nat->Nat->Prop}{o:OT}{T:Nat}{x:ah}{a:Array Value}{b:List Value}(h:xv w I [true] .unit (.pair (.ref T o) .unit) x a.toList b):∃v,a=#[v]/\b=[v]:=by
 obtain⟨v,c,r,d,e,_,_,rfl,rfl⟩:=h;exact⟨v,yX.1 d,e⟩
theorem TI{w:World}{I:Nat->Nat->Prop}{o:rS}{c:List Value}{f:List Nat}{g:List (Option<|Nat×Nat)}(h:mh w I (.pair (.ref 120 Ej) .unit) (o,()) c f g) :
  ∃b a T d,c=[.pointer<|some ⟨b,0,none⟩]/\f=[b]/\g=[]/\(∀e,¬I b e)/\w.heap[b]?=some (.cells a T d)/\a.toList=pB o/\iD a d/\(120=0\/T=120)/\Ci o:=by
 obtain⟨q,s,t,u,v,x,rfl,rfl,rfl,⟨b,r,rfl,rfl,i,a,T,d,j,k,l,m⟩,rfl,rfl,rfl⟩:=h;obtain⟨n,rfl,rfl,p⟩:=Lx m;exact⟨b,a,T,d,rfl,rfl,rfl,i,j,n,k,l,p⟩
theorem LB{w:World}{I:Nat->Nat->Prop}{o:rS}{b:Nat}{a:Array Value}{T:TypeId}{c:Nat×Nat}(e:∀d,¬I b d)(h:w.heap[b]?=some (.cells a T c))(f:a.toList=pB o)(g:iD a c)(i:120=0\/T=120)(j:Ci o) :
  mh w I (.pair (.ref 120 Ej) .unit) (o,()) [.pointer<|some ⟨b,0,none⟩] [b] [] :=
 ⟨[_],[],[b],[],[],[],rfl,rfl,rfl,⟨b,[],rfl,rfl,e,a,T,c,h,g,i,f▸LA w I j⟩,rfl,rfl,rfl⟩
noncomputable def yK(a:aE×ah->Option (aE×ah))(x:ah×rS×ah):Option ((aE×ah)×rS×ah) :=
 av (aQ x.2.1.2.1.2.1.2.1 (0:Int))
  (av (aQ x.2.1.2.1.2.2.1.2.1.1 (0:Int)) (av (aQ x.2.1.2.2.2.1.2.2.1 (0:Int))
   (ab (a (x.2.1.1,())) λy=>some ((y.1,()),(x.2.1.1,((),((),(1:Int),()),((),((0:Int),x.2.1.2.1.2.2.1.2.1.2.1,()),()),()),y.1,((),(),(1:Int),()),()),()))
   none) none)
  (some ((x.2.1.2.2.1,()),x.2))
theorem Pv{P:Program}{f:Nat}{b:Func}(d:P.funcs[f]?=some b)(c:(b.name == "runtime.NumGoroutine")=false)(e:b.body.isSome=true):∃b a,P.funcs[f]?=some b/\(b.name == "runtime.NumGoroutine")=false/\b.body=some a:=by
 obtain⟨a,g⟩:=Cu.1 e;exact⟨b,a,d,c,g⟩
theorem LC{a b:Int}(h:aQ a b=true):a=b:=yW h
theorem LD{b c:Type}{a:Option b}{f:b->Option c}{y:c}(h:ab a f=some y):∃x,a=some x/\f x=some y:=by
 cases a with
 | none=>cases h
 | some x=>exact⟨x,rfl,h⟩
theorem LF{b:Type}{c:Bool}{a:Option b}{y:b}(h:av c a none=some y):c=true/\a=some y:=by
 cases c with
 | false=>cases h
 | true=>exact⟨rfl,h⟩
theorem On[Lp](s t:aE)(h:iM (s,())=some (t,())):t.length<=maxLen:=by
 unfold iM at h;obtain⟨d,_,h⟩:=LD h;obtain⟨_,h⟩:=LF h;obtain⟨a,_,h⟩:=LD h;obtain⟨b,h⟩:=LF h;obtain rfl:=(b8<|aq h).1;have c:((([115,104,97,50,53,54,58]:aE).length:Int)+(a.1.length:Int))<=4294967296:=yW b;have e:=sc;show(([115,104,97,50,53,54,58]:aE)++a.1).length<=maxLen
 rw[l9];omega
theorem F7{G:eg}{B:aE×ah->Option (aE×ah)}(R:Holds Tryz.prog G 53 ⟨.pair .str .unit,.pair .str .unit,B⟩)(E:∀s t,B (s,())=some (t,())->t.length<=maxLen) :
  aR Tryz.prog G 32 ⟨[true],.unit,.pair (.ref 120 Ej) .unit,.pair .str .unit,yK B⟩ where
 body:=Pv Tryz.func32 (by kernel_rfl) (by kernel_rfl)
 calls:=by
  intro I w args iy bs ls x u y hI hG S C F QJ a;obtain⟨v,rfl,rfl⟩:=Pu C;obtain⟨o,_⟩:=u;change rS at o;obtain⟨b,H,T,fr,hp,rfl,rfl,J,U,V,W,hT,z⟩:=TI F;obtain rfl:=pY hp;obtain⟨c,j,O⟩:=Om U V W;have K:∀w':World,w'.os=w.os->w'.tape=w.tape->w'.output=w.output->w.heap.size<=w'.heap.size->(∀k,k<w.heap.size->k≠b->w'.heap[k]?=w.heap[k]?)->lg ⟨w.heap.size,(·∈bL [b] []),G⟩ w w' :=
   λw' n r h3 X Y=>⟨n,r,h3,X,λk z=>Y k (Gl λq=>z (.inl q)) λq=>z (.inr<|by subst q;simp[bL])⟩
  change yK B ((),o,())=some y at a;unfold yK at a;cases L:aQ o.2.1.2.1.2.1 (0:Int) with
  | true =>
    rw[L] at a;cases hs:aQ o.2.1.2.2.1.2.1.1 (0:Int) with
    | false=>rw[hs] at a;cases a
    | true =>
    cases Z:aQ o.2.2.2.1.2.2.1 (0:Int) with
    | false=>rw[hs,Z] at a;cases a
    | true =>
    rw[hs,Z] at a;cases l:B (o.1,()) with
    | none=>change (ab (B (o.1,())) _)=some y at a;rw[l] at a;cases a
    | some y1 =>
    obtain⟨t,_⟩:=y1;change (ab (B (o.1,())) _)=some y at a;rw[l] at a;obtain rfl:=aq a;have D:=LC L;have NT:=LC hs;have Qv:=LC Z
    let A:=w.alloc (.cells #[.pointer<|some ⟨b,0,none⟩] 76)
    have hA:A.heap[b]?=some (.cells H T fr):=(oQ w _ O).trans U;have TJ:mO G (A.setCell ⟨b,2,none⟩<|.int .i32 1).drew:=by
     intro k Q g;obtain⟨ob,n,r⟩:=hG k Q g;have TL:k≠b:=λq=>S k Q g (by subst q;simp[bL]);exact⟨ob,((rn A _ TL).trans<|oQ w _ (oc.1 n).1).trans n,r⟩
    have M:Calls Tryz.prog 53 #[.string ⟨o.1.toArray⟩] (A.setCell ⟨b,2,none⟩<|.int .i32 1).drew λe w'=>e=.returned (.string ⟨t.toArray⟩)/\Below (A.setCell ⟨b,2,none⟩<|.int .i32 1).drew.heap.size (A.setCell ⟨b,2,none⟩<|.int .i32 1).drew w':=by
     refine(R.calls (λ_ _=>False) _ #[.string ⟨o.1.toArray⟩] (o.1,()) (t,()) (λ_ _ h=>h.elim) TJ ⟨[.string ⟨o.1.toArray⟩],[],rfl,⟨rfl,z.bytes⟩,rfl⟩ l).mono ?_;rintro e w' ⟨v,I',rfl,hw,_,_,_,cs,⟨rfl,_⟩,hv⟩;exact⟨congrArg _<|pY hv,hw⟩
    have N:t.length<=maxLen:=E _ _ l;refine(F5 b o.1 t (.string ⟨o.2.2.1.toArray⟩) w O M (c 0 _ rfl) (c 1 _<|congrArg (λd=>some (Value.int .u32 d)) D) (c 2 _<|congrArg (λd=>some (Value.int .i32 d)) NT) (c 4 _ rfl) (c 5 _<|congrArg (λd=>some (Value.int .i64 d)) Qv)
     (j 1<|by decide) (j 2<|by decide) (j 4<|by decide) (j 5<|by decide)).mono ?_
    rintro e w' ⟨rfl,P,m,rfl⟩;have r:P.heap[b]?=some (.cells (H.setIfInBounds 2<|.int .i32 1) T fr):=(m.block b<|by omega).trans (qR _ hA);have X:=qR (i:=4) (.string ⟨t.toArray⟩) r;have Y:=qR (i:=5) (.int .i64 1) X;have n:=qR (w:=((P.setCell ⟨b,4,none⟩<|.string ⟨t.toArray⟩).setCell ⟨b,5,none⟩<|.int .i64 1).drew) (i:=1) (.int .u32 1) Y;have h0:=qR (i:=2) (.int .i32 0) n;have Nl:P.heap.size>=w.heap.size:=by
     have:=m.size;simp at this;omega
    refine⟨_,I,[],rfl,K _ m.os m.tape m.output (by simp;omega) ?_,λ_ _ h=>h,?_,λk f n r=>absurd n r,⟨[_],⟨rfl,N⟩,rfl⟩,?_,by simp[bL],λk h=>by cases h⟩
    .intro k TM p;rw[rn _ _ p,rn _ _ p];show((P.setCell ⟨b,4,none⟩<|.string ⟨t.toArray⟩).setCell ⟨b,5,none⟩<|.int .i64 1).heap[k]?=_
     rw[rn _ _ p,rn _ _ p,m.block k (by omega),rn _ _ p];exact oQ w _ TM
    .exact λk f h=>rp (hI k f h) (by simp;omega)
    .refine LB J h0 ?_ (λf ho=>W f (by simpa using ho)) hT ⟨z.bytes,N,(by decide:IntKind.u32.min<=1/\1<=IntKind.u32.max),(by decide:IntKind.i32.min<=0/\0<=IntKind.i32.max),z.Ol,(by decide:IntKind.i64.min<=1/\1<=IntKind.i64.max)⟩;simp[V,pB]
  | false =>
    rw[L] at a;obtain rfl:=aq a;have D:¬o.2.1.2.1.2.1=0:=λq=>by rw[q] at L;exact absurd L (by decide)
    refine(F6 b o.2.1.2.1.2.1 D o.2.2.1 w O (c 1 _ rfl)<|c 4 _ rfl).mono ?_;rintro e w' ⟨rfl,rfl⟩;refine⟨_,I,[],rfl,K _ rfl rfl rfl (by simp) λk n _=>oQ w _ n,λ_ _ h=>h,λk f h=>rp (hI k f h) (by simp),λk f n r=>absurd n r,⟨[_],⟨rfl,z.text⟩,rfl⟩,LB J ((oQ w _ O).trans U) V W hT z,by simp[bL],λk h=>by cases h⟩
end Go.Proofs.YtbaijbjhkmoidaaGreatDoor
