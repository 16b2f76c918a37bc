/- sync.Once at this program's numbers: the parts of its slow road (steps of the kit's worked proof of a Once, turned to this program). -/
import Derived.Test.YtbaijbjhkmoidaaGreatDoorChecked
import Derived.Test.YtbaijbjhkmoidaaGreatDoorPlC
import Derived.WalkKit
import Derived.BigCall
import Derived.Tactics
import Derived.Tactics2
import Derived.Defers
import Derived.Laws.Pointers
import Derived.Laws.LoneSync
import Derived.RegionTactic
import Derived.RegionCalls
import Derived.ChangeAlike
import Derived.Deep.RegionWith
set_option linter.unusedVariables false
set_option linter.unusedSimpArgs false
set_option linter.unusedSectionVars false
namespace Go.Proofs.YtbaijbjhkmoidaaGreatDoor
open Go Go.Ge Go.RowKit
theorem disable(w:World):(callFunc 158 #[]).run Tryz.prog w=.ok (.value (.tuple #[])) w:=run_call_mark0 Tryz.func158 (by kernel_rfl) (by kernel_rfl) (by kernel_rfl) .disable (by kernel_rfl) w
theorem enable(w:World):(callFunc 160 #[]).run Tryz.prog w=.ok (.value (.tuple #[])) w:=run_call_mark0 Tryz.func160 (by kernel_rfl) (by kernel_rfl) (by kernel_rfl) .enable (by kernel_rfl) w
theorem acquire(a:Addr)(w:World):(callFunc 161 #[.pointer (some a)]).run Tryz.prog w=.ok (.value (.tuple #[])) w:=run_call_marked Tryz.func161 (by kernel_rfl) (by kernel_rfl) (by kernel_rfl) .acquire (by kernel_rfl) a w
theorem releaseMerge(a:Addr)(w:World):(callFunc 163 #[.pointer (some a)]).run Tryz.prog w=.ok (.value (.tuple #[])) w:=run_call_marked Tryz.func163 (by kernel_rfl) (by kernel_rfl) (by kernel_rfl) .releaseMerge (by kernel_rfl) a w
set_option maxRecDepth 100000 in
set_option maxHeartbeats 1600000 in
theorem AX(a:Addr)(x:Value)(u:FrameMode)(w:World)(hc:w.cell? a=some x)(hz:w.frozen? a=false) :
  CallsD Tryz.prog 114 #[.pointer (some a),.bool true] u w fun e u' w'=>u'=u∧(e=.returned (.tuple #[])∧w'=w.drew.setCell a (.int .u32 1)):=by
 have NX:w.drew.cell? a=some x:=by go_simp
 have Kh:w.drew.frozen? a=false:=by go_simp
 have hst:=run_call_store (P:=Tryz.prog) Tryz.func140 (by kernel_rfl) (by kernel_rfl) (by kernel_rfl) (by kernel_rfl) (k:=.u32) (y:=1) NX Kh
 go_enter_d Tryz.func114,Tryz.ntmps114
 go_wp2
 go_region_calls
 all_goals (go_end0;exact⟨rfl,rfl⟩)
set_option maxRecDepth 100000 in
set_option maxHeartbeats 1600000 in
theorem yG(a:Addr)(u:FrameMode)(w:World)(hc:w.cell? a=some (.int .i32 1))(hz:w.frozen? a=false) :
  CallsD Tryz.prog 113 #[.pointer (some a)] u w fun e u' w'=>u'=u∧(e=.returned (.tuple #[])∧w'=w.setCell a (.int .i32 0)):=by
 have hd:=disable;have he:=enable;have hr:=releaseMerge;have p9:=run_call_add (P:=Tryz.prog) Tryz.func164 (by kernel_rfl) (by kernel_rfl) (by kernel_rfl) .i32 (by kernel_rfl) (y:=-1) (s:=0) hc hz (by simp[go_sem];rfl);have Nk:=run_convert_to_unsafe (P:=Tryz.prog) (src:=244) (dst:=242) Tryz.underlying244 Tryz.underlying242 (by kernel_rfl) hc
 go_enter_d Tryz.func113,Tryz.ntmps113
 go_wp2
 go_end0
 go_wp2
 go_end0
 exact⟨rfl,rfl⟩
set_option maxRecDepth 100000 in
set_option maxHeartbeats 1600000 in
theorem J4(a:Addr)(w:World)(hc:w.cell? a=some (.int .i32 0))(hz:w.frozen? a=false) :
  Calls Tryz.prog 112 #[.pointer (some a)] w fun e w'=>e=.returned (.tuple #[])∧w'=w.setCell a (.int .i32 1):=by
 have hd:=disable;have he:=enable;have ha:=acquire;have Vo:=run_call_cas_hit (P:=Tryz.prog) Tryz.func159 (by kernel_rfl) (by kernel_rfl) (by kernel_rfl) .i32 (by kernel_rfl) (y:=1) hc hz;have NX:(w.setCell a (.int .i32 1)).cell? a=some (.int .i32 1):=World.cell?_setCell_same w a _ hc;have Nk:=run_convert_to_unsafe (P:=Tryz.prog) (src:=244) (dst:=242) Tryz.underlying244 Tryz.underlying242 (by kernel_rfl) NX
 go_enter Tryz.func112,Tryz.ntmps112
 go_wp2
 first|go_end0|(simp only[Exit.inBlock,Exit.then];refine bodyPost_ret (results_none rfl _ _ _) rfl ?_)|refine bodyPost_ret (results_none rfl _ _ _) rfl ?_
 go_wp2
 go_end0
 exact⟨rfl,rfl⟩
set_option maxRecDepth 100000 in
set_option maxHeartbeats 1600000 in
theorem BV(b:Nat)(pl:Addr)(s t:List UInt8)(x4:Value)(w:World)(hb:b<w.heap.size)(hpl:pl.block<w.heap.size)(hne:¬b=pl.block)(hp:w.cell? pl=some (.pointer (some ⟨b,0,none⟩)))
  (Ls:Calls Tryz.prog 53 #[.string ⟨s.toArray⟩] w.drew fun e w'=>e=.returned (.string ⟨t.toArray⟩)∧Below (w.drew).heap.size (w.drew) w')
  (h0:w.cell? ⟨b,0,none⟩=some (.string ⟨s.toArray⟩)) (h4:w.cell? ⟨b,4,none⟩=some x4) (h5:w.cell? ⟨b,5,none⟩=some (.int .i64 0))
  (f4:w.frozen? ⟨b,4,none⟩=false) (f5:w.frozen? ⟨b,5,none⟩=false) :
  Calls Tryz.prog 55 #[.pointer (some pl)] w fun e w'=>e=.returned (.tuple #[])∧∃wm,Below w.heap.size w wm∧w'=(wm.setCell ⟨b,4,none⟩ (.string ⟨t.toArray⟩)).setCell ⟨b,5,none⟩ (.int .i64 1):=by
 have hp':w.drew.cell? pl=some (.pointer (some ⟨b,0,none⟩)):=by go_simp
 have h0':w.drew.cell? ⟨b,0,none⟩=some (.string ⟨s.toArray⟩):=by go_simp
 have S9:Calls Tryz.prog 53 #[.string ⟨s.toArray⟩] w.drew fun e w'=>e=.returned (.string ⟨t.toArray⟩)∧Below w.heap.size w w'∧w'.cell? ⟨b,4,none⟩=some x4∧w'.frozen? ⟨b,4,none⟩=false∧w'.cell? pl=some (.pointer (some ⟨b,0,none⟩))∧w'.cell? ⟨b,0,none⟩=some (.string ⟨s.toArray⟩):=by
  refine Ls.mono ?_;rintro e w' ⟨rfl,hw⟩;have hw:Below w.heap.size w w':=⟨hw.os,hw.tape,hw.output,hw.size,hw.block⟩;exact⟨rfl,hw,(hw.cell hb).trans h4,(hw.frozen hb).trans f4,(hw.cell hpl).trans hp,(hw.cell hb).trans h0⟩
 go_enter Tryz.func55,Tryz.ntmps55
 go_wp2
 go_region_with (go_at_call 53;refine S9.mono ?_;rintro e w' ⟨rfl,hw,VG,VH,QH,VI⟩)
 all_goals
  have Vp:(w'.setCell ⟨b,4,none⟩ (.string ⟨t.toArray⟩)).cell? ⟨b,5,none⟩=some (.int .i64 0):=(World.cell?_setCell_other _ ⟨b,4,none⟩ ⟨b,5,none⟩ _ (by simp)).trans ((hw.cell hb).trans h5);have Ta:w'.frozen? ⟨b,5,none⟩=false:=(hw.frozen hb).trans f5;have Vq:(w'.setCell ⟨b,4,none⟩ (.string ⟨t.toArray⟩)).frozen? ⟨b,5,none⟩=false:=by simp[Ta]
  have VJ:(w'.setCell ⟨b,4,none⟩ (.string ⟨t.toArray⟩)).cell? pl=some (.pointer (some ⟨b,0,none⟩)):=(World.cell?_setCell_other _ ⟨b,4,none⟩ pl _ (fun h=>hne (by rw[←h]))).trans QH;have p9:=run_call_add (P:=Tryz.prog) Tryz.func81 (by kernel_rfl) (by kernel_rfl) (by kernel_rfl) .i64 (by kernel_rfl) (y:=1) (s:=1) Vp Vq (by simp[go_sem];rfl)
  go_wp2
  go_end0
  exact⟨rfl,w',hw,rfl⟩
theorem MH(a:Addr)(d:Int)(w:World)(h0:w.cell? a=some (.int .u32 d)):Calls Tryz.prog 79 #[.pointer (some a)] w fun e w'=>e=.returned (.bool (d != 0))∧w'=w:=by
 have hl:=run_call_load (P:=Tryz.prog) Tryz.func111 (by kernel_rfl) (by kernel_rfl) (by kernel_rfl) .u32 (by kernel_rfl) h0
 go_enter Tryz.func79,Tryz.ntmps79
 go_wp2
 go_ret
 exact⟨rfl,rfl⟩
set_option maxRecDepth 100000 in
set_option maxHeartbeats 1600000 in
theorem HE(b:Nat)(pl:Addr)(s t:List UInt8)(x4:Value)(w:World)(hb:b<w.heap.size)(hpl:pl.block<w.heap.size)(hne:¬b=pl.block)(hp:w.cell? pl=some (.pointer (some ⟨b,0,none⟩)))
  (Ls:Calls Tryz.prog 53 #[.string ⟨s.toArray⟩] (w.setCell ⟨b,2,none⟩ (.int .i32 1)).drew fun e w'=>e=.returned (.string ⟨t.toArray⟩)∧Below ((w.setCell ⟨b,2,none⟩ (.int .i32 1)).drew).heap.size ((w.setCell ⟨b,2,none⟩ (.int .i32 1)).drew) w')
  (h0:w.cell? ⟨b,0,none⟩=some (.string ⟨s.toArray⟩)) (h1:w.cell? ⟨b,1,none⟩=some (.int .u32 0)) (h2:w.cell? ⟨b,2,none⟩=some (.int .i32 0)) (h4:w.cell? ⟨b,4,none⟩=some x4) (h5:w.cell? ⟨b,5,none⟩=some (.int .i64 0))
  (f1:w.frozen? ⟨b,1,none⟩=false) (f2:w.frozen? ⟨b,2,none⟩=false) (f4:w.frozen? ⟨b,4,none⟩=false) (f5:w.frozen? ⟨b,5,none⟩=false) :
  Calls Tryz.prog 80 #[.pointer (some ⟨b,1,none⟩),.func (.func 55) #[] #[.pointer (some pl)]] w fun e w'=>e=.returned (.tuple #[]) ∧
   ∃wm,Below w.heap.size (w.setCell ⟨b,2,none⟩ (.int .i32 1)) wm∧w'=((((wm.setCell ⟨b,4,none⟩ (.string ⟨t.toArray⟩)).setCell ⟨b,5,none⟩ (.int .i64 1)).drew.setCell ⟨b,1,none⟩ (.int .u32 1)).setCell ⟨b,2,none⟩ (.int .i32 0)):=by
 have hsz:(w.setCell ⟨b,2,none⟩ (.int .i32 1)).heap.size=w.heap.size:=by simp
 have Qr:∀j,j≠2→(w.setCell ⟨b,2,none⟩ (.int .i32 1)).cell? ⟨b,j,none⟩=w.cell? ⟨b,j,none⟩:=fun j hj=>World.cell?_setCell_other _ ⟨b,2,none⟩ ⟨b,j,none⟩ _ (by simp<;>omega);have hl:=run_call_load (P:=Tryz.prog) Tryz.func111 (by kernel_rfl) (by kernel_rfl) (by kernel_rfl) .u32 (by kernel_rfl) (w:=w.setCell ⟨b,2,none⟩ (.int .i32 1)) (a:=⟨b,1,none⟩) (x:=0) ((Qr 1 (by decide)).trans h1);have Se:(w.setCell ⟨b,2,none⟩ (.int .i32 1)).cell? pl=some (.pointer (some ⟨b,0,none⟩)):=(World.cell?_setCell_other _ ⟨b,2,none⟩ pl _ (fun h=>hne (by rw[←h]))).trans hp;have hnot:∀(x:Bool) (w:World),(Op.unary .not (.bool x)).run Tryz.prog w=.ok (.bool (!x)) w:=fun _ _=>rfl;have Tb:=BV b pl s t x4 (w.setCell ⟨b,2,none⟩ (.int .i32 1)) (by rw[hsz];exact hb) (by rw[hsz];exact hpl) hne Se Ls ((Qr 0 (by decide)).trans h0) ((Qr 4 (by decide)).trans h4) ((Qr 5 (by decide)).trans h5) (by simp[f4]) (by simp[f5])
 go_enter_defers Tryz.func80,Tryz.ntmps80
 go_wp2_with (go_at_call 112;refine(J4 ⟨b,2,none⟩ _ (by go_simp) (by go_simp)).mono ?_;rintro e w' ⟨rfl,rfl⟩)
 go_wp2_with (first|(go_at_call 79;refine(MH ⟨b,1,none⟩ 0 _ ((Qr 1 (by decide)).trans h1)).mono ?_;rintro e w' ⟨rfl,rfl⟩)|(go_at_call 55;refine Tb.mono ?_;rintro e w' ⟨rfl,wm,FI,rfl⟩))
 have cw:∀j,j≠4→j≠5→((wm.setCell ⟨b,4,none⟩ (.string ⟨t.toArray⟩)).setCell ⟨b,5,none⟩ (.int .i64 1)).cell? ⟨b,j,none⟩=wm.cell? ⟨b,j,none⟩:=fun j h4 h5 =>
  (World.cell?_setCell_other _ ⟨b,5,none⟩ ⟨b,j,none⟩ _ (by simp<;>omega)).trans (World.cell?_setCell_other _ ⟨b,4,none⟩ ⟨b,j,none⟩ _ (by simp<;>omega))
 rw[hsz] at FI;have z:∀j,wm.frozen? ⟨b,j,none⟩=w.frozen? ⟨b,j,none⟩:=fun j=>(FI.frozen (p:=⟨b,j,none⟩) hb).trans (by simp);have w1:wm.cell? ⟨b,1,none⟩=some (.int .u32 0):=(FI.cell (p:=⟨b,1,none⟩) hb).trans ((Qr 1 (by decide)).trans h1);have w2:wm.cell? ⟨b,2,none⟩=some (.int .i32 1):=(FI.cell (p:=⟨b,2,none⟩) hb).trans (World.cell?_setCell_same w _ _ h2);try go_wp2
 refine leaves_cons (f:=114) (args:=#[.pointer (some ⟨b,1,none⟩),.bool true]) (by simp) (by simp[go_sem]) ?_;refine(AX ⟨b,1,none⟩ (.int .u32 0) .returning _ ((cw 1 (by decide) (by decide)).trans w1) (by simp[z,f1])).mono ?_;rintro e u' w'' ⟨rfl,rfl,rfl⟩;refine leaves_cons (f:=113) (args:=#[.pointer (some ⟨b,2,none⟩)]) (by simp[settle]) (by simp[go_sem]) ?_;refine(yG ⟨b,2,none⟩ _ _ ?_ (by simp[z,f2])).mono ?_
 ·refine(World.cell?_setCell_other _ ⟨b,1,none⟩ ⟨b,2,none⟩ _ (by simp)).trans ?_;rw[World.cell?_drew];exact(cw 2 (by decide) (by decide)).trans w2
 rintro e u' w'' ⟨rfl,rfl,rfl⟩;simp[Leaves,settle,results,Tryz.results80];exact⟨wm,FI,rfl⟩
set_option maxRecDepth 100000 in
set_option maxHeartbeats 1600000 in
theorem MI(b:Nat)(pl:Addr)(s t:List UInt8)(x4:Value)(w:World)(hb:b<w.heap.size)(hpl:pl.block<w.heap.size)(hne:¬b=pl.block)(hp:w.cell? pl=some (.pointer (some ⟨b,0,none⟩)))
  (Ls:Calls Tryz.prog 53 #[.string ⟨s.toArray⟩] (w.setCell ⟨b,2,none⟩ (.int .i32 1)).drew fun e w'=>e=.returned (.string ⟨t.toArray⟩)∧Below ((w.setCell ⟨b,2,none⟩ (.int .i32 1)).drew).heap.size ((w.setCell ⟨b,2,none⟩ (.int .i32 1)).drew) w')
  (h0:w.cell? ⟨b,0,none⟩=some (.string ⟨s.toArray⟩)) (h1:w.cell? ⟨b,1,none⟩=some (.int .u32 0)) (h2:w.cell? ⟨b,2,none⟩=some (.int .i32 0)) (h4:w.cell? ⟨b,4,none⟩=some x4) (h5:w.cell? ⟨b,5,none⟩=some (.int .i64 0))
  (f1:w.frozen? ⟨b,1,none⟩=false) (f2:w.frozen? ⟨b,2,none⟩=false) (f4:w.frozen? ⟨b,4,none⟩=false) (f5:w.frozen? ⟨b,5,none⟩=false) :
  Calls Tryz.prog 54 #[.pointer (some ⟨b,1,none⟩),.func (.func 55) #[] #[.pointer (some pl)]] w fun e w'=>e=.returned (.tuple #[]) ∧
   ∃wm,Below w.heap.size (w.setCell ⟨b,2,none⟩ (.int .i32 1)) wm∧w'=((((wm.setCell ⟨b,4,none⟩ (.string ⟨t.toArray⟩)).setCell ⟨b,5,none⟩ (.int .i64 1)).drew.setCell ⟨b,1,none⟩ (.int .u32 1)).setCell ⟨b,2,none⟩ (.int .i32 0)):=by
 have hnot:∀(x:Bool) (w:World),(Op.unary .not (.bool x)).run Tryz.prog w=.ok (.bool (!x)) w:=fun _ _=>rfl
 go_enter Tryz.func54,Tryz.ntmps54
 go_wp2_with (first|(go_at_call 80;refine(HE b pl s t x4 _ hb hpl hne hp Ls h0 h1 h2 h4 h5 f1 f2 f4 f5).mono ?_;rintro e w' ⟨rfl,hx⟩)|(go_at_call 79;refine(MH ⟨b,1,none⟩ 0 _ h1).mono ?_;rintro e w' ⟨rfl,rfl⟩))
 go_end0
 exact⟨rfl,hx⟩
theorem Ol(a:Addr)(d:Int)(hd:¬d=0)(fv:Value)(w:World)(h0:w.cell? a=some (.int .u32 d))(b:Nat)(ha:a=⟨b,1,none⟩) :
  Calls Tryz.prog 54 #[.pointer (some a),fv] w fun e w'=>e=.returned (.tuple #[])∧w'=w:=by
 subst ha;have hnot:∀(x:Bool) (w:World),(Op.unary .not (.bool x)).run Tryz.prog w=.ok (.bool (!x)) w:=fun _ _=>rfl;have hd':(d != 0)=true:=by simp[hd]
 have hb:=MH ⟨b,1,none⟩ d w h0;rw[hd'] at hb
 go_enter Tryz.func54,Tryz.ntmps54
 go_wp2_with (go_at_call 79;refine hb.mono ?_;rintro e w' ⟨rfl,rfl⟩)
 go_end0
 exact⟨rfl,rfl⟩
set_option maxRecDepth 100000 in
set_option maxHeartbeats 1600000 in
theorem HF(b:Nat)(s t:List UInt8)(x4:Value)(w:World)(hb:b<w.heap.size)
  (Ls:Calls Tryz.prog 53 #[.string ⟨s.toArray⟩] ((w.alloc (.cells #[.pointer (some ⟨b,0,none⟩)] 76)).setCell ⟨b,2,none⟩ (.int .i32 1)).drew fun e w'=>e=.returned (.string ⟨t.toArray⟩)∧Below (((w.alloc (.cells #[.pointer (some ⟨b,0,none⟩)] 76)).setCell ⟨b,2,none⟩ (.int .i32 1)).drew).heap.size (((w.alloc (.cells #[.pointer (some ⟨b,0,none⟩)] 76)).setCell ⟨b,2,none⟩ (.int .i32 1)).drew) w')
  (h0:w.cell? ⟨b,0,none⟩=some (.string ⟨s.toArray⟩)) (h1:w.cell? ⟨b,1,none⟩=some (.int .u32 0)) (h2:w.cell? ⟨b,2,none⟩=some (.int .i32 0)) (h4:w.cell? ⟨b,4,none⟩=some x4) (h5:w.cell? ⟨b,5,none⟩=some (.int .i64 0))
  (f1:w.frozen? ⟨b,1,none⟩=false) (f2:w.frozen? ⟨b,2,none⟩=false) (f4:w.frozen? ⟨b,4,none⟩=false) (f5:w.frozen? ⟨b,5,none⟩=false) :
  Calls Tryz.prog 32 #[.pointer (some ⟨b,0,none⟩)] w fun e w'=>e=.returned (.string ⟨t.toArray⟩) ∧
   ∃wm,Below (w.heap.size+1) ((w.alloc (.cells #[.pointer (some ⟨b,0,none⟩)] 76)).setCell ⟨b,2,none⟩ (.int .i32 1)) wm∧w'=((((wm.setCell ⟨b,4,none⟩ (.string ⟨t.toArray⟩)).setCell ⟨b,5,none⟩ (.int .i64 1)).drew.setCell ⟨b,1,none⟩ (.int .u32 1)).setCell ⟨b,2,none⟩ (.int .i32 0)):=by
 have Vr:∀(fn:Fn) (first cap:Array Value) (w:World),(Instr.makeFunc fn first cap).run Tryz.prog w=.ok (.func fn first cap) w:=fun _ _ _ _=>rfl
 let wA:=w.alloc (.cells #[.pointer (some ⟨b,0,none⟩)] 76)
 have Tc:wA.heap.size=w.heap.size+1:=by simp[wA]
 have cA:∀j,wA.cell? ⟨b,j,none⟩=w.cell? ⟨b,j,none⟩:=fun j=>World.cell?_alloc_past _ _ _ hb;have zA:∀j,wA.frozen? ⟨b,j,none⟩=w.frozen? ⟨b,j,none⟩:=fun j=>World.frozen?_alloc_past _ _ _ hb;have p0:wA.cell? ⟨w.heap.size,0,none⟩=some (.pointer (some ⟨b,0,none⟩)):=by simp[wA]
 have Vs:=MI b ⟨w.heap.size,0,none⟩ s t x4 wA (by rw[Tc];omega) (by rw[Tc];simp) (by simp;omega) p0 Ls ((cA 0).trans h0) ((cA 1).trans h1) ((cA 2).trans h2) ((cA 4).trans h4) ((cA 5).trans h5) ((zA 1).trans f1) ((zA 2).trans f2) ((zA 4).trans f4) ((zA 5).trans f5);have nb:∀j:Nat,(⟨b,j,none⟩:Addr)≠⟨w.heap.size,0,none⟩:=fun j h=>by
  have:=congrArg Addr.block h;simp at this;omega
 have Td:Calls Tryz.prog 54 #[.pointer (some ⟨b,1,none⟩),.func (.func 55) #[] #[.pointer (some ⟨w.heap.size,0,none⟩)]] wA fun e w'=>e=.returned (.tuple #[]) ∧
   (∃wm,Below (w.heap.size+1) (wA.setCell ⟨b,2,none⟩ (.int .i32 1)) wm∧w'=((((wm.setCell ⟨b,4,none⟩ (.string ⟨t.toArray⟩)).setCell ⟨b,5,none⟩ (.int .i64 1)).drew.setCell ⟨b,1,none⟩ (.int .u32 1)).setCell ⟨b,2,none⟩ (.int .i32 0))) ∧
   w'.cell? ⟨w.heap.size,0,none⟩=some (.pointer (some ⟨b,0,none⟩))∧w'.cell? ⟨b,4,none⟩=some (.string ⟨t.toArray⟩):=by
  refine Vs.mono ?_;rintro e w' ⟨rfl,wm,FI,rfl⟩;rw[Tc] at FI;refine⟨rfl,⟨wm,FI,rfl⟩,?_,?_⟩
  ·rw[World.cell?_setCell_other _ _ _ _ (nb _),World.cell?_setCell_other _ _ _ _ (nb _),World.cell?_drew,World.cell?_setCell_other _ _ _ _ (nb _),World.cell?_setCell_other _ _ _ _ (nb _),FI.cell (p:=⟨w.heap.size,0,none⟩) (by simp),World.cell?_setCell_other _ _ _ _ (nb _)];exact p0
  ·rw[World.cell?_setCell_other _ ⟨b,2,none⟩ ⟨b,4,none⟩ _ (by simp),World.cell?_setCell_other _ ⟨b,1,none⟩ ⟨b,4,none⟩ _ (by simp),World.cell?_drew,World.cell?_setCell_other _ ⟨b,5,none⟩ ⟨b,4,none⟩ _ (by simp)];refine World.cell?_setCell_same _ _ _ (u:=x4) ?_;rw[FI.cell (p:=⟨b,4,none⟩) (by simp;omega),World.cell?_setCell_other _ ⟨b,2,none⟩ ⟨b,4,none⟩ _ (by simp)];exact(cA 4).trans h4
 go_enter Tryz.func32,Tryz.ntmps32
 go_wp2_with (go_at_call 54;refine Td.mono ?_;rintro e w' ⟨rfl,hx,VK,VL⟩)
 go_ret
 exact⟨rfl,hx⟩
set_option maxRecDepth 100000 in
set_option maxHeartbeats 1600000 in
theorem HG(b:Nat)(d:Int)(hd:¬d=0)(t:List UInt8)(w:World)(hb:b<w.heap.size)
  (h1:w.cell? ⟨b,1,none⟩=some (.int .u32 d)) (h4:w.cell? ⟨b,4,none⟩=some (.string ⟨t.toArray⟩)) :
  Calls Tryz.prog 32 #[.pointer (some ⟨b,0,none⟩)] w fun e w'=>e=.returned (.string ⟨t.toArray⟩)∧w'=w.alloc (.cells #[.pointer (some ⟨b,0,none⟩)] 76):=by
 have Vr:∀(fn:Fn) (first cap:Array Value) (w:World),(Instr.makeFunc fn first cap).run Tryz.prog w=.ok (.func fn first cap) w:=fun _ _ _ _=>rfl;have a1:(w.alloc (.cells #[.pointer (some ⟨b,0,none⟩)] 76)).cell? ⟨b,1,none⟩=some (.int .u32 d):=(World.cell?_alloc_past _ _ _ hb).trans h1;have a4:(w.alloc (.cells #[.pointer (some ⟨b,0,none⟩)] 76)).cell? ⟨b,4,none⟩=some (.string ⟨t.toArray⟩):=(World.cell?_alloc_past _ _ _ hb).trans h4;have p0:(w.alloc (.cells #[.pointer (some ⟨b,0,none⟩)] 76)).cell? ⟨w.heap.size,0,none⟩=some (.pointer (some ⟨b,0,none⟩)):=by simp
 go_enter Tryz.func32,Tryz.ntmps32
 go_wp2_with (go_at_call 54;refine(Ol ⟨b,1,none⟩ d hd _ _ a1 b rfl).mono ?_;rintro e w' ⟨rfl,rfl⟩)
 go_ret
 exact⟨rfl,rfl⟩
abbrev FJ:OT:=(.pair (.dat .str) (.pair (.dat (.pair .unit (.pair (.pair .unit (.pair (.int .u32) .unit)) (.pair (.pair .unit (.pair (.pair (.int .i32) (.pair (.int .u32) .unit)) .unit)) .unit)))) (.pair (.dat .str) (.pair (.dat (.pair .unit (.pair .unit (.pair (.int .i64) .unit)))) .unit))))
abbrev tP:=List UInt8×(Unit×(Unit×Int×Unit)×(Unit×(Int×Int×Unit)×Unit)×Unit)×List UInt8×(Unit×Unit×Int×Unit)×Unit
def qP(o:tP):List Value:=[.string ⟨o.1.toArray⟩,.int .u32 o.2.1.2.1.2.1,.int .i32 o.2.1.2.2.1.2.1.1,.int .u32 o.2.1.2.2.1.2.1.2.1,.string ⟨o.2.2.1.toArray⟩,.int .i64 o.2.2.2.1.2.2.1]
structure DY (o:tP):Prop where
 bytes:o.1.length≤maxLen
 text:o.2.2.1.length≤maxLen
 done:IntKind.u32.min≤o.2.1.2.1.2.1∧o.2.1.2.1.2.1≤IntKind.u32.max
 state:IntKind.i32.min≤o.2.1.2.2.1.2.1.1∧o.2.1.2.2.1.2.1.1≤IntKind.i32.max
 P3:IntKind.u32.min≤o.2.1.2.2.1.2.1.2.1∧o.2.1.2.2.1.2.1.2.1≤IntKind.u32.max
 made:IntKind.i64.min≤o.2.2.2.1.2.2.1∧o.2.2.2.1.2.2.1≤IntKind.i64.max
theorem MJ{w:World}{I:Nat→Nat→Prop}{o:tP}{cs:List Value}{bs:List Nat}{ls:List (Option (Nat×Nat))}(h:nU w I FJ o cs bs ls):cs=qP o∧bs=[]∧ls=[]∧DY o:=by
 obtain⟨c1,r1,b1,To,l1,VM,rfl,rfl,rfl,⟨⟨rfl,k1⟩,rfl,rfl⟩,h⟩:=h;obtain⟨c2,r2,b2,VN,l2,QW,rfl,rfl,rfl,⟨hO,rfl,rfl⟩,h⟩:=h;obtain⟨c3,r3,b3,VO,l3,VP,rfl,rfl,rfl,⟨⟨rfl,k3⟩,rfl,rfl⟩,h⟩:=h;obtain⟨c4,r4,b4,VQ,l4,VR,rfl,rfl,rfl,⟨hA,rfl,rfl⟩,rfl,rfl,rfl⟩:=h;obtain⟨e1,e2,rfl,rfl,e3,e4,rfl,⟨e5,e6,rfl,rfl,e7,e8,rfl,⟨rfl,d1,d2⟩,rfl⟩,e9,VS,rfl,⟨m1,m2,rfl,rfl,m3,m4,rfl,⟨s1,s2,rfl,⟨rfl,M4,SV⟩,s3,s4,rfl,⟨rfl,Vt,Vu⟩,rfl⟩,rfl⟩,rfl⟩:=hO;obtain⟨a1,a2,rfl,rfl,a3,a4,rfl,rfl,a5,a6,rfl,⟨rfl,n1,n2⟩,rfl⟩:=hA;exact⟨rfl,rfl,rfl,k1,k3,⟨d1,d2⟩,⟨M4,SV⟩,⟨Vt,Vu⟩,n1,n2⟩
theorem MK(w:World)(I:Nat→Nat→Prop){o:tP}(k:DY o):nU w I FJ o (qP o) [] [] :=
 ⟨[_],[_,_,_,_,_],[],[],[],[],rfl,rfl,rfl,⟨⟨rfl,k.bytes⟩,rfl,rfl⟩,
  [_,_,_],[_,_],[],[],[],[],rfl,rfl,rfl,⟨⟨[],[_,_,_],rfl,rfl,[_],[_,_],rfl,⟨[],[_],rfl,rfl,[_],[],rfl,⟨rfl,k.done.1,k.done.2⟩,rfl⟩,[_,_],[],rfl,⟨[],[_,_],rfl,rfl,[_,_],[],rfl,⟨[_],[_],rfl,⟨rfl,k.state.1,k.state.2⟩,[_],[],rfl,⟨rfl,k.P3.1,k.P3.2⟩,rfl⟩,rfl⟩,rfl⟩,rfl,rfl⟩,
  [_],[_],[],[],[],[],rfl,rfl,rfl,⟨⟨rfl,k.text⟩,rfl,rfl⟩,
  [_],[],[],[],[],[],rfl,rfl,rfl,⟨⟨[],[_],rfl,rfl,[],[_],rfl,rfl,[_],[],rfl,⟨rfl,k.made.1,k.made.2⟩,rfl⟩,rfl,rfl⟩,rfl,rfl,rfl⟩
theorem P4{w:World}{b:Nat}{o:tP}{cur:Array Value}{T:TypeId}{fr:Nat×Nat}(h:w.heap[b]?=some (.cells cur T fr))(hc:cur.toList=qP o)(ht:jm cur fr) :
  (∀j v,(qP o)[j]?=some v→w.cell? ⟨b,j,none⟩=some v)∧(∀j,j<6→w.frozen? ⟨b,j,none⟩=false)∧b<w.heap.size:=by
 refine⟨fun j v hj=>?_,fun j hj=>?_,(Array.getElem?_eq_some_iff.1 h).1⟩
 ·rw[←hc] at hj;simp only[World.cell?,h];simpa using hj
 ·have:=ht j (by rw[←Ku,hc];exact hj);simp only[World.frozen?,h];simp only[OA,KB];omega
theorem sC{w:World}{b i:Nat}{cur:Array Value}{T:TypeId}{fr:Nat×Nat}(v:Value)(h:w.heap[b]?=some (.cells cur T fr)):(w.setCell ⟨b,i,none⟩ v).heap[b]?=some (.cells (cur.setIfInBounds i v) T fr):=by
 rw[setCell_eq_setRow w b i cur T fr v h];exact setRow_heap w b cur _ T fr h
theorem s9(w:World){b i k:Nat}(v:Value)(h:k≠b):(w.setCell ⟨b,i,none⟩ v).heap[k]?=w.heap[k]?:=by
 simp[World.setCell,Kt,zh h]
theorem qf(w:World)(o:Obj){k:Nat}(h:k<w.heap.size):(w.alloc o).heap[k]?=w.heap[k]?:=by
 show(w.heap.push o)[k]?=_
 rw[Array.getElem?_push,cT (Nat.ne_of_lt h)]
theorem args1{w:World}{I:Nat→Nat→Prop}{o:OT}{T:Nat}{x:Unit}{args:Array Value}{en:List Value}(h:Cc w I [true] .unit (.pair (.ref T o) .unit) x args.toList en):∃v,args=#[v]∧en=[v]:=by
 obtain⟨v,rest,r,ha,hp,_,_,rfl,rfl⟩:=h;exact⟨v,Array.toList_inj.1 ha,hp⟩
theorem JY{w:World}{I:Nat→Nat→Prop}{o:tP}{en:List Value}{bs:List Nat}{ls:List (Option (Nat×Nat))}(h:nU w I (.pair (.ref 120 FJ) .unit) (o,()) en bs ls) :
  ∃b cur T fr,en=[.pointer (some ⟨b,0,none⟩)]∧bs=[b]∧ls=[]∧(∀off,¬I b off)∧w.heap[b]?=some (.cells cur T fr)∧cur.toList=qP o∧jm cur fr∧(120=0∨T=120)∧DY o:=by
 obtain⟨c1,c2,b1,b2,l1,l2,rfl,rfl,rfl,⟨b,r,rfl,rfl,hI,cur,T,fr,hh,ht,hT,ho⟩,rfl,rfl,rfl⟩:=h;obtain⟨hc,rfl,rfl,hk⟩:=MJ ho;exact⟨b,cur,T,fr,rfl,rfl,rfl,hI,hh,hc,ht,hT,hk⟩
theorem ML{w:World}{I:Nat→Nat→Prop}{o:tP}{b:Nat}{cur:Array Value}{T:TypeId}{fr:Nat×Nat}(hI:∀off,¬I b off)(h:w.heap[b]?=some (.cells cur T fr))(hc:cur.toList=qP o)(ht:jm cur fr)(hT:120=0∨T=120)(hk:DY o) :
  nU w I (.pair (.ref 120 FJ) .unit) (o,()) [.pointer (some ⟨b,0,none⟩)] [b] [] :=
 ⟨[_],[],[b],[],[],[],rfl,rfl,rfl,⟨b,[],rfl,rfl,hI,cur,T,fr,h,ht,hT,hc▸MK w I hk⟩,rfl,rfl,rfl⟩
noncomputable def AY(of:List UInt8×Unit→Option (List UInt8×Unit))(x:Unit×tP×Unit):Option ((List UInt8×Unit)×tP×Unit) :=
 aO (b9 x.2.1.2.1.2.1.2.1 (0:Int))
  (aO (b9 x.2.1.2.1.2.2.1.2.1.1 (0:Int)) (aO (b9 x.2.1.2.2.2.1.2.2.1 (0:Int))
   (ah (of (x.2.1.1,())) fun y=>some ((y.1,()),((x.2.1.1,(((),(((),((1:Int),())),(((),(((0:Int),(x.2.1.2.1.2.2.1.2.1.2.1,())),())),()))),(y.1,(((),((),((1:Int),()))),())))),())))
   none) none)
  (some ((x.2.1.2.2.1,()),x.2))
theorem Rp{P:Program}{f:Nat}{fn:Func}(hP:P.funcs[f]?=some fn)(hname:(fn.name == "runtime.NumGoroutine")=false)(hb:fn.body.isSome=true):∃fn code,P.funcs[f]?=some fn∧(fn.name == "runtime.NumGoroutine")=false∧fn.body=some code:=by
 obtain⟨code,hc⟩:=Option.isSome_iff_exists.1 hb;exact⟨fn,code,hP,hname,hc⟩
theorem MM{a b:Int}(h:b9 a b=true):a=b:=wq h
theorem MN{α β:Type}{a:Option α}{f:α→Option β}{y:β}(h:ah a f=some y):∃x,a=some x∧f x=some y:=by
 cases a with
 | none=>cases h
 | some x=>exact⟨x,rfl,h⟩
theorem MO{α:Type}{c:Bool}{a:Option α}{y:α}(h:aO c a none=some y):c=true∧a=some y:=by
 cases c with
 | false=>cases h
 | true=>exact⟨rfl,h⟩
theorem P5[Lp](s t:List UInt8)(h:iP (s,())=some (t,())):t.length≤maxLen:=by
 unfold iP at h;obtain⟨y1,_,h⟩:=MN h;obtain⟨_,h⟩:=MO h;obtain⟨y2,_,h⟩:=MN h;obtain⟨hf,h⟩:=MO h;obtain rfl:=(cr (ax h)).1;have hf':((([115,104,97,50,53,54,58]:List UInt8).length:Int)+(y2.1.length:Int))≤4294967296:=wq hf;have hb:=uv;show(([115,104,97,50,53,54,58]:List UInt8)++y2.1).length≤maxLen
 rw[pM];omega
theorem HH{G:eH}{of:List UInt8×Unit→Option (List UInt8×Unit)}(Ls:Holds Tryz.prog G 53 ⟨.pair .str .unit,.pair .str .unit,of⟩)(hlen:∀s t,of (s,())=some (t,())→t.length≤maxLen) :
  cH Tryz.prog G 32 ⟨[true],.unit,.pair (.ref 120 FJ) .unit,.pair .str .unit,AY of⟩ where
 body:=Rp Tryz.func32 (by kernel_rfl) (by kernel_rfl)
 calls:=by
  intro I w args en bs ls x u y hI hG Sw hargs LZ hnd hspec;obtain⟨v,rfl,rfl⟩:=args1 hargs;obtain⟨o,_⟩:=u;change tP at o;obtain⟨b,cur,T,fr,hp,rfl,rfl,TW,hh,hc,ht,hT,hk⟩:=JY LZ;obtain rfl:=mJ hp;obtain⟨hcell,I0,hb⟩:=P4 hh hc ht;have TX:∀w':World,w'.os=w.os→w'.tape=w.tape→w'.output=w.output→w.heap.size≤w'.heap.size→(∀k,k<w.heap.size→k≠b→w'.heap[k]?=w.heap[k]?)→nD ⟨w.heap.size,(·∈bL [b] []),G⟩ w w' :=
   fun w' h1 h2 h3 h4 h5=>⟨h1,h2,h3,h4,fun k hk=>h5 k (HM fun q=>hk (.inl q)) fun q=>hk (.inr (by subst q;simp[bL]))⟩
  change AY of ((),(o,()))=some y at hspec;unfold AY at hspec;cases hd:b9 o.2.1.2.1.2.1 (0:Int) with
  | true =>
    rw[hd] at hspec;cases hs:b9 o.2.1.2.2.1.2.1.1 (0:Int) with
    | false=>rw[hs] at hspec;cases hspec
    | true =>
    cases hm:b9 o.2.2.2.1.2.2.1 (0:Int) with
    | false=>rw[hs,hm] at hspec;cases hspec
    | true =>
    rw[hs,hm] at hspec;cases Om:of (o.1,()) with
    | none=>change (ah (of (o.1,())) _)=some y at hspec;rw[Om] at hspec;cases hspec
    | some y1 =>
    obtain⟨t,_⟩:=y1;change (ah (of (o.1,())) _)=some y at hspec;rw[Om] at hspec;obtain rfl:=ax hspec;have hd0:=MM hd;have hs0:=MM hs;have hm0:=MM hm
    let A:=w.alloc (.cells #[.pointer (some ⟨b,0,none⟩)] 76)
    have hA:A.heap[b]?=some (.cells cur T fr):=(qf w _ hb).trans hh;have Vv:nQ G (A.setCell ⟨b,2,none⟩ (.int .i32 1)).drew:=by
     intro k Q g;obtain⟨ob,h1,h2⟩:=hG k Q g;have Vw:k≠b:=fun q=>Sw k Q g (by subst q;simp[bL]);exact⟨ob,((s9 A _ Vw).trans (qf w _ (Array.getElem?_eq_some_iff.1 h1).1)).trans h1,h2⟩
    have Te:Calls Tryz.prog 53 #[.string ⟨o.1.toArray⟩] (A.setCell ⟨b,2,none⟩ (.int .i32 1)).drew fun e w'=>e=.returned (.string ⟨t.toArray⟩)∧Below (A.setCell ⟨b,2,none⟩ (.int .i32 1)).drew.heap.size (A.setCell ⟨b,2,none⟩ (.int .i32 1)).drew w':=by
     refine(Ls.calls (fun _ _=>False) _ #[.string ⟨o.1.toArray⟩] (o.1,()) (t,()) (fun _ _ h=>h.elim) Vv ⟨[.string ⟨o.1.toArray⟩],[],rfl,⟨rfl,hk.bytes⟩,rfl⟩ Om).mono ?_;rintro e w' ⟨v,I',rfl,hw,_,_,_,cs,⟨rfl,_⟩,hv⟩;exact⟨congrArg _ (mJ hv),hw⟩
    have TY:t.length≤maxLen:=hlen _ _ Om;refine(HF b o.1 t (.string ⟨o.2.2.1.toArray⟩) w hb Te (hcell 0 _ rfl) (hcell 1 _ (congrArg (fun d=>some (Value.int .u32 d)) hd0)) (hcell 2 _ (congrArg (fun d=>some (Value.int .i32 d)) hs0)) (hcell 4 _ rfl) (hcell 5 _ (congrArg (fun d=>some (Value.int .i64 d)) hm0))
     (I0 1 (by decide)) (I0 2 (by decide)) (I0 4 (by decide)) (I0 5 (by decide))).mono ?_
    rintro e w' ⟨rfl,wm,FI,rfl⟩;have h2:wm.heap[b]?=some (.cells (cur.setIfInBounds 2 (.int .i32 1)) T fr):=(FI.block b (by omega)).trans (sC _ hA);have h4:=sC (i:=4) (.string ⟨t.toArray⟩) h2;have h5:=sC (i:=5) (.int .i64 1) h4;have h1:=sC (w:=((wm.setCell ⟨b,4,none⟩ (.string ⟨t.toArray⟩)).setCell ⟨b,5,none⟩ (.int .i64 1)).drew) (i:=1) (.int .u32 1) h5;have h0:=sC (i:=2) (.int .i32 0) h1;have hsz:wm.heap.size≥w.heap.size:=by
     have:=FI.size;simp at this;omega
    refine⟨_,I,[],rfl,TX _ FI.os FI.tape FI.output (by simp;omega) ?_,fun _ _ h=>h,?_,fun k off h1 h2=>absurd h1 h2,⟨[_],⟨rfl,TY⟩,rfl⟩,?_,by simp[bL],fun k h=>by cases h⟩
    ·intro k Qg hk2;rw[s9 _ _ hk2,s9 _ _ hk2];show((wm.setCell ⟨b,4,none⟩ (.string ⟨t.toArray⟩)).setCell ⟨b,5,none⟩ (.int .i64 1)).heap[k]?=_
     rw[s9 _ _ hk2,s9 _ _ hk2,FI.block k (by omega),s9 _ _ hk2];exact qf w _ Qg
    ·exact fun k off h=>ud (hI k off h) (by simp;omega)
    ·refine ML TW h0 ?_ (fun off ho=>ht off (by simpa using ho)) hT ⟨hk.bytes,TY,(by decide:IntKind.u32.min≤1∧1≤IntKind.u32.max),(by decide:IntKind.i32.min≤0∧0≤IntKind.i32.max),hk.P3,(by decide:IntKind.i64.min≤1∧1≤IntKind.i64.max)⟩;simp[hc,qP]
  | false =>
    rw[hd] at hspec;obtain rfl:=ax hspec;have hd0:¬o.2.1.2.1.2.1=0:=fun q=>by rw[q] at hd;exact absurd hd (by decide)
    refine(HG b o.2.1.2.1.2.1 hd0 o.2.2.1 w hb (hcell 1 _ rfl) (hcell 4 _ rfl)).mono ?_;rintro e w' ⟨rfl,rfl⟩;refine⟨_,I,[],rfl,TX _ rfl rfl rfl (by simp) fun k h1 _=>qf w _ h1,fun _ _ h=>h,fun k off h=>ud (hI k off h) (by simp),fun k off h1 h2=>absurd h1 h2,⟨[_],⟨rfl,hk.text⟩,rfl⟩,ML TW ((qf w _ hb).trans hh) hc ht hT hk,by simp[bL],fun k h=>by cases h⟩
end Go.Proofs.YtbaijbjhkmoidaaGreatDoor
