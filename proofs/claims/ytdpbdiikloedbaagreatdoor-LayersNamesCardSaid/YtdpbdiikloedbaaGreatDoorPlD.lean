/- Plain laws of what the functions compute: part 4. -/
import Derived.Test.YtdpbdiikloedbaaGreatDoorPlC
import Derived.Test.YtdpbdiikloedbaaGreatDoorGeI
import Derived.Lib.ParseIntBCases
import Derived.Lib.ItoaMem
set_option linter.unusedSectionVars false
set_option linter.unusedVariables false
set_option linter.unusedSimpArgs false
noncomputable section
namespace Go.Ge
variable [Lp]
def idN(n:Int):Tx:=s6 (aT [kT .u8 (jS .i64 n 16),kT .u8 (jS .i64 n 8),kT .u8 n])
def Yh(d:Int)(k:Nat):Tx:=idN (fR (aD .i64 (ia .i64 d 16777215) (k:Int)) 16777216)
def VZ(s:Tx):Prop:=(HN s).isSome=true∧s.length=6
theorem Ou(n:Int):wK (n,())=some (idN n,()):=by
 unfold wK;rw[show aX (16:Int) 0=false from rfl,ak,show aX (8:Int) 0=false from rfl,ak,W0 _ (by show 3≤1048576;omega),af];rfl
def tY(l:List Nm)(d:Int)(k:Nat):Bool:=decide (∀x∈l,x.1≠Yh d k)
def jM(l:List Nm)(d:Int):Tx×Int×Unit:=if 32≤l.length then([],(5,())) else
 match(List.range (l.length+1)).find? (tY l d) with|some k=>(Yh d k,(0,()))|none=>([],(5,()))
theorem Yi(l:List Nm)(d:Int)(s:Tx)(hl:l.length≤1000000) :
  (∃i:Nat,Loop (fO (l,(d,()))) (((0:Int),((0:Int),())),(s,()))=some (1,(((i:Int),((i:Int),())),(s,())))∧∃x∈l,x.1=s) ∨
  (Loop (fO (l,(d,()))) (((0:Int),((0:Int),())),(s,()))=some (0,(((0:Int),(len l,())),(s,())))∧∀x∈l,x.1≠s):=by
 rcases xA (f:=fO (l,(d,()))) l (fun i=>(((0:Int),(i,())),(s,()))) (fun _ x=>decide (x.1=s)) (fun i x=>(1,(((i:Int),((i:Int),())),(s,())))) (0,(((0:Int),(len l,())),(s,()))) (by omega) (fun i x hx hi ha=>by
  unfold fO;dsimp only;rw[aK hi,ai,aS hx,af,mW,ha];by_cases h:x.1=s<;>simp[bX,h]) (by unfold fO;dsimp only;rw[aZ,ak];rfl) with ⟨i,x,hx,hp,hj,h⟩|⟨hn,h⟩
 ·exact .inl ⟨i,h,x,yc hx,yd hp⟩
 ·refine .inr ⟨h,fun x hx he=>?_⟩;obtain⟨i,hi⟩:=cm.1 hx;have:=hn i x hi;simp[he] at this
theorem Yj(l:List Nm)(d:Int):pT (l,(d,()))=some (jM l d):=by
 unfold pT jM;dsimp only;have e32:cK (32:Int) (len l)=decide (32≤l.length):=by unfold cK len;apply decide_eq_decide.2;omega
 rw[e32];by_cases h32:32≤l.length
 ·rw[kj h32,bG h32];rfl
 rw[mu h32,bH h32,ak];have Ti:aD .i64 (len l) 1=((l.length+1:Nat):Int):=by rw[jE (by unfold len;omega) (by unfold len;omega)];unfold len;omega
 have hlen:(List.range (l.length+1)).length=l.length+1:=PD;have key:∀k:Nat,k<l.length+1→iP (l,(d,())) ((([]:Tx),((0:Int),((k:Int),()))),())=some (if tY l d k=true then .inr (1,((Yh d k,((0:Int),((k:Int),()))),())) else .inl ((([]:Tx),((0:Int),(((k+1:Nat):Int),()))),())):=fun k hk=>by
  have hk1:aD .i64 (k:Int) 1=((k+1:Nat):Int):=cG (by omega);unfold iP;dsimp only;rw[Ti,b7 (by omega),ai,show bI (16777216:Int) 0=false from rfl,ak,Ou,af,hk1];dsimp only;show aa (Loop _ (((0:Int),((0:Int),())),(Yh d k,()))) _=_
  rcases Yi l d (Yh d k) (by omega) with ⟨i,h,x,hx,he⟩|⟨h,hn⟩
  ·rw[h,af];dsimp only;rw[show eY 1 0=false from rfl,ak,pJ (by omega),cg,ak,bH (by unfold tY;rw[Zb];exact fun hq=>hq x hx he)]
  ·rw[h,af];dsimp only;rw[show eY 0 0=true from rfl,ai,show nt (cK (0:Int) (-1))=true from rfl,ai,bG (by unfold tY;rw[Zb];exact hn)];rfl
 rcases xA (f:=iP (l,(d,()))) (List.range (l.length+1)) (fun k=>((([]:Tx),((0:Int),(k,()))),())) (fun k _=>tY l d k) (fun k _=>(1,((Yh d k,((0:Int),((k:Int),()))),()))) (0,((([]:Tx),((0:Int),(((l.length+1:Nat):Int),()))),())) (by rw[hlen];omega)
  (fun k x hx hi ha=>key k (by rw[hlen] at hi;exact hi)) (by
   unfold iP;dsimp only;rw[Ti,hlen,bM (by omega),ak]) with ⟨k,x,hx,hp,hj,h⟩|⟨hn,h⟩
 ·have hk:=bw hx;rw[hlen] at hk;rw[h,af];have hf:(List.range (l.length+1)).find? (tY l d)=some k:=by
   rw[adZ];refine⟨hp,k,by rw[hlen];exact hk,by simp,fun j hjk=>?_⟩;have:=hj j j hjk (by rw[PC (by omega)]);simpa using this
  rw[hf];rfl
 ·rw[h,af];have hf:(List.range (l.length+1)).find? (tY l d)=none:=by
   rw[List.find?_eq_none];intro k hk;have hk:=List.mem_range.1 hk;have:=hn k k (by rw[PC hk]);simpa using this
  rw[hf];rfl
end Go.Ge
namespace Go.Ge
variable [Lp]
abbrev It:=Tx×Tx×Tx×Unit
theorem MK(l:List It)(hl:l.length≤100000):fP (l,(l,()))=some (true,()):=by
 unfold fP;dsimp only;rw[dO rfl,cg,ak];rcases xA (f:=iQ (l,(l,()))) l (fun i=>((false,(i,())),())) (fun _ _=>false) (fun i _=>(1,((false,((i:Int),())),()))) (0,((false,((l.length:Int),())),())) (by omega) (fun i x hx hi ha=>by
  unfold iQ;dsimp only;rw[aK hi,ai,ai,aS hx,af,af,FC rfl,FC rfl,FC rfl,ha];rfl) (by unfold iQ;dsimp only;rw[aZ,ak,ak]) with ⟨i,x,_,hp,_⟩|⟨hn,h⟩
 ·cases hp
 ·rw[h];rfl
end Go.Ge
namespace Go.Ge
variable [Lp]
abbrev KS:=(Int×Int×Unit)×Unit×Tx×Unit
abbrev PS':=(Int×Int×Unit)×Unit×It×Unit
end Go.Ge
namespace Go.Ge
variable [Lp]
end Go.Ge
namespace Go.Ge
set_option maxRecDepth 100000
end Go.Ge
namespace Go.Ge
variable [Lp]
theorem FZ(l:List It):∃b,dG (l,())=some (b,())∧(b=true→l.length≤8∧∀x∈l,x.1.length≤100∧x.2.2.1.length≤200):=by
 unfold dG;rcases qS (f:=dK (l,())) l 8 (fun i=>((false,(i,())),())) (fun _ x=>decide (100<x.1.length)||decide (200<x.2.2.1.length)) (fun i x=>(1,((false,((i:Int),())),()))) (fun m=>(0,((false,((m:Int),())),()))) (by omega) (fun i x hx hi hin ha=>by
  unfold dK;dsimp only;have l1:∀{m:List UInt8},aX 100 (len m)=decide (100<m.length):=fun {m}=>by unfold aX len;apply decide_eq_decide.2;omega
  have l2:∀{m:List UInt8},aX 200 (len m)=decide (200<m.length):=fun {m}=>by unfold aX len;apply decide_eq_decide.2;omega
  rw[aK hi,ai,b7 (show(i:Int)<8 by omega),ai,aS hx,af,af,l1,l2,ha];cases decide (100<x.1.length)<;>cases decide (200<x.2.2.1.length)<;>rfl) (by
  unfold dK;dsimp only;have:aq (aX ((min 8 l.length:Nat):Int) (len l)) (aX ((min 8 l.length:Nat):Int) 8) false=false:=by
   by_cases h:l.length≤8
   ·rw[Zh h,aZ,ak]
   ·rw[sV (by omega),show aX ((8:Nat):Int) 8=false from rfl];cases aX ((8:Nat):Int) (len l)<;>rfl
  rw[this,ak]) with ⟨i,x,hi,hx,hp,_,h⟩|⟨hn2,h⟩
 ·rw[h];exact⟨false,rfl,fun h=>(by cases h)⟩
 ·rw[h];refine⟨_,rfl,fun hb=>?_⟩;dsimp only at hb;have h8:l.length≤8:=by
   unfold cK len at hb;simp at hb;omega
  refine⟨h8,fun x hx=>?_⟩;obtain⟨i,hi⟩:=cm.1 hx;have:=hn2 i x (by have:=bw hi;omega) hi;simp at this;omega
def af9(l:List It):Prop:=l.Pairwise fun x y=>ql x.1 y.1=true
def ah5(x:It):Prop:=lg x.1=true∧x.2.2.1.length≤64∧x.2.1=s7 x.2.2.1
def OkI(l:List It):Prop:=l.length≤4∧af9 l∧∀x∈l,ah5 x
end Go.Ge
namespace Go.Ge
variable [Lp]
abbrev QV:=Tx×Int×Unit
abbrev cI:=List QI×List zL×List aI×List Tx×List QV×Unit
def H9(l:List Item):Prop:=l.length≤8∧∀x∈l,x.1.length≤100∧x.2.2.1.length≤200
structure aga (b:yL):Prop extends VL b where
 im:∀x∈b.2.2.1,x.2.2.2.1.length≤200∧H9 x.2.2.2.2.1
 bm:∀x∈b.2.2.2.1,x.2.2.2.2.1.length≤200∧H9 x.2.2.2.2.2.1
theorem Yk(b:yL):∃c,oP (b,())=some (c,())∧(c=true→aga b):=by
 obtain⟨I7,Oj⟩:∃I7:List Tx→Bool,∀l,jT (l,())=some (I7 l,())∧(I7 l=true→oA l):=⟨fun l=>Classical.choose (CC l),fun l=>Nz (CC l)⟩;obtain⟨QJ,ME⟩:∃I7:List Item→Bool,∀l,dG (l,())=some (I7 l,())∧(I7 l=true→H9 l):=⟨fun l=>Classical.choose (FZ l),fun l=>Nz (FZ l)⟩;obtain⟨c0,hc0,hfb⟩:=aaQ b;refine⟨c0,hc0,fun hc=>?_⟩;have hB:=hfb hc
 suffices q:(∀x∈b.2.2.1,x.2.2.2.1.length≤200∧H9 x.2.2.2.2.1)∧(∀x∈b.2.2.2.1,x.2.2.2.2.1.length≤200∧H9 x.2.2.2.2.2.1) from⟨hB,q.1,q.2⟩
 subst hc;obtain⟨n,la,im,bo,u⟩:=b;obtain⟨h1,_,h2,_,h3,_⟩:=hB;dsimp only at h1 h2 h3;unfold oP at hc0;have aeG:∀{q:Nat×(Bool×Int×Unit)×Unit} {g:Option (Bool×Unit)},q.1=1→q.2.1.1=false→aq (eY q.1 0) g (some (q.2.1.1,()))≠some (true,()):=fun {q g} e1 e2 h=>by
  rw[e1,e2] at h;have h:some (false,())=some (true,()):=h;cases h
 rcases qS (f:=gM ((n,(la,(im,(bo,u)))),())) la 40 (fun i=>((false,(i,())),())) (fun _ x=>!I7 x.2.2.1) (fun i x=>(1,((false,((i:Int),())),()))) (fun n=>(0,((false,((n:Int),())),()))) (by omega) (fun i x hx hi hi8 ha=>by
  unfold gM;dsimp only;rw[aK hi,ai,b7 (show(i:Int)<40 by omega),ai,aS hx,af,(Oj _).1,af,WR,ha];cases I7 x.2.2.1<;>rfl) (by unfold gM;dsimp only;rw[pS (c:=40) rfl,ak]) with ⟨i,x,hi,hx,hp,_,h⟩|⟨hn0,h⟩
 ·rw[h,af] at hc0;exact absurd hc0 (aeG rfl rfl)
 rw[h,af] at hc0;dsimp only at hc0;rw[vo,ai] at hc0;rcases qS (f:=gN ((n,(la,(im,(bo,u)))),())) im 40 (fun i=>((false,(i,())),())) (fun _ x=>!I7 x.2.1||decide (200<x.2.2.2.1.length)||!QJ x.2.2.2.2.1) (fun i x=>(1,((false,((i:Int),())),()))) (fun n=>(0,((false,((n:Int),())),()))) (by omega) (fun i x hx hi hi8 ha=>by
  unfold gN;dsimp only;rw[aK hi,ai,b7 (show(i:Int)<40 by omega),ai,aS hx,af,(Oj _).1,af,af,af,fF (n:=200) (c:=200) rfl,(ME _).1,af,ha];dsimp only;cases I7 x.2.1 with
  | false=>rfl
  | true =>
    by_cases h2:200<x.2.2.2.1.length
    ·simp[h2,aq,nt,aa]
    ·cases hq:QJ x.2.2.2.2.1<;>simp[h2,aq,nt,aa]) (by unfold gN;dsimp only;rw[pS (c:=40) rfl,ak]) with ⟨i,x,hi,hx,hp,_,h⟩|⟨hn1,h⟩
 ·rw[h,af] at hc0;exact absurd hc0 (aeG rfl rfl)
 rw[h,af] at hc0;dsimp only at hc0;rw[vo,ai] at hc0;rcases qS (f:=gO ((n,(la,(im,(bo,u)))),())) bo 40 (fun i=>((false,(i,())),())) (fun _ x=>!I7 x.2.1||decide (200<x.2.2.2.2.1.length)||!QJ x.2.2.2.2.2.1) (fun i x=>(1,((false,((i:Int),())),()))) (fun n=>(0,((false,((n:Int),())),()))) (by omega) (fun i x hx hi hi8 ha=>by
  unfold gO;dsimp only;rw[aK hi,ai,b7 (show(i:Int)<40 by omega),ai,aS hx,af,(Oj _).1,af,af,af,fF (n:=200) (c:=200) rfl,(ME _).1,af,ha];dsimp only;cases I7 x.2.1 with
  | false=>rfl
  | true =>
    by_cases h2:200<x.2.2.2.2.1.length
    ·simp[h2,aq,nt,aa]
    ·cases hq:QJ x.2.2.2.2.2.1<;>simp[h2,aq,nt,aa]) (by unfold gO;dsimp only;rw[pS (c:=40) rfl,ak]) with ⟨i,x,hi,hx,hp,_,h⟩|⟨hn2,h⟩
 ·rw[h,af] at hc0;exact absurd hc0 (aeG rfl rfl)
 refine⟨fun x hx=>?_,fun x hx=>?_⟩
 ·dsimp only at hx;obtain⟨i,hi⟩:=cm.1 hx;have:=hn1 i x (by have:=bw hi;omega) hi;simp only[CK,Xg,abU] at this;exact⟨by omega,(ME _).2 this.2⟩
 ·dsimp only at hx;obtain⟨i,hi⟩:=cm.1 hx;have:=hn2 i x (by have:=bw hi;omega) hi;simp only[CK,Xg,abU] at this;exact⟨by omega,(ME _).2 this.2⟩
theorem Yl(l:List aI):∃b,wO (l,())=some (b,())∧(b=true→l.length≤40∧∀x∈l,x.1.length≤100∧x.2.1.length≤100):=by
 unfold wO;rcases qS (f:=pX (l,())) l 40 (fun i=>((false,(i,())),())) (fun _ x=>decide (100<x.1.length)||decide (100<x.2.1.length)) (fun i x=>(1,((false,((i:Int),())),()))) (fun n=>(0,((false,((n:Int),())),()))) (by omega) (fun i x hx hi hi8 ha=>by
  unfold pX;dsimp only;rw[aK hi,ai,b7 (show(i:Int)<40 by omega),ai,aS hx,af,fF (n:=100) (c:=100) rfl,af,fF (n:=100) (c:=100) rfl,ha];by_cases h:100<x.1.length
  ·simp[h,aq,nt,aa]
  ·by_cases h2:100<x.2.1.length<;>simp[h,h2,aq,nt,aa]) (by unfold pX;dsimp only;rw[pS (c:=40) rfl,ak]) with ⟨i,x,hi,hx,hp,_,h⟩|⟨hn,h⟩
 ·rw[h];exact⟨false,rfl,fun h=>(by cases h)⟩
 ·rw[h];refine⟨_,rfl,fun hb=>?_⟩;dsimp only at hb;rw[iO (n:=40) (c:=40) rfl] at hb;have h40:=yd hb;refine⟨h40,fun x hx=>?_⟩;obtain⟨i,hi⟩:=cm.1 hx;have:=hn i x (by have:=bw hi;omega) hi;simp at this;omega
structure V0 (s:cI):Prop where
 base:aga (0,(s.2.2.1,(s.2.1,(s.1,()))))
 ids:∀x∈s.2.2.1,x.1.length≤100∧x.2.1.length≤100
 lays:s.2.2.1.length≤12
 agb:s.2.2.2.1.length≤12
 akp:∀d∈s.2.2.2.1,d.length≤8192
 mts:s.2.2.2.2.1.length≤40
theorem Ym(s:cI):∃b,wP (s,())=some (b,())∧(b=true→V0 s):=by
 obtain⟨bo,im,la,di,mo,u⟩:=s;obtain⟨b1,e1,f1⟩:=Yk (0,(la,(im,(bo,()))));obtain⟨b2,e2,f2⟩:=Yl la;unfold wP;rcases qS (f:=pY ((bo,(im,(la,(di,(mo,u))))),())) di 12 (fun i=>((false,(i,())),())) (fun _ x=>decide (8192<x.length)) (fun i x=>(1,((false,((i:Int),())),()))) (fun n=>(0,((false,((n:Int),())),()))) (by omega) (fun i x hx hi hi8 ha=>by
  unfold pY;dsimp only;rw[aK hi,ai,b7 (show(i:Int)<12 by omega),ai,aS hx,af,fF (n:=8192) (c:=8192) rfl,mW,ha];by_cases h:8192<x.length<;>simp[h]) (by unfold pY;dsimp only;rw[pS (c:=12) rfl,ak]) with ⟨i,x,hi,hx,hp,_,h⟩|⟨hn,h⟩
 ·rw[h];exact⟨false,rfl,fun h=>(by cases h)⟩
 ·rw[h,af];dsimp only;rw[vo,ai,e1,af,e2];dsimp only;rw[iO (n:=12) (c:=12) rfl,iO (n:=12) (c:=12) rfl,iO (n:=40) (c:=40) rfl];cases b1 with
  | false=>exact⟨false,rfl,fun h=>(by cases h)⟩
  | true =>
    rw[ai,af,af];cases b2 with
    | false=>exact⟨false,rfl,fun h=>(by cases h)⟩
    | true =>
      refine⟨_,rfl,fun hb=>?_⟩;by_cases q1:la.length≤12
      ·by_cases q2:di.length≤12
       ·by_cases q3:mo.length≤40
        ·refine⟨f1 rfl,(f2 rfl).2,q1,q2,fun d hd=>?_,q3⟩;obtain⟨i,hi⟩:=cm.1 hd;have hi:di[i]?=some d:=hi;have:=hn i d (by have:=bw hi;omega) hi;simpa using this
        ·rw[kj q1,kj q2,mu q3] at hb;cases hb
       ·rw[kj q1,mu q2] at hb;cases hb
      ·rw[mu q1] at hb;cases hb
end Go.Ge
namespace Go.Ge
variable [Lp]
theorem QW(a b:List UInt8):bX a b=decide (a=b):=rfl
theorem acU(a b:Int):bI a b=decide (a=b):=rfl
def BdL(x:aI):Prop:=x.1.length≤1048576∧x.2.1.length≤1048576∧oA x.2.2.1∧x.2.2.2.1.length≤1048576
def BdI(x:zL):Prop:=x.1.length≤1048576∧oA x.2.1∧x.2.2.1.length≤1048576∧H9 x.2.2.2.2.1
def BdB(x:QI):Prop:=x.1.length≤1048576∧oA x.2.1∧x.2.2.1.length≤1048576∧x.2.2.2.1.length≤1048576∧H9 x.2.2.2.2.2.1
structure OkL (x:aI):Prop where
 id:VZ x.1
 par:x.2.1=[]∨(VZ x.2.1∧x.2.1≠x.1)
 nms:pR x.2.2.1=true
 dig:ahZ x.2.2.2.1=0
 s0:0≤x.2.2.2.2.1
 s1:x.2.2.2.2.1≤8192
 b0:0≤x.2.2.2.2.2.1
 b1:x.2.2.2.2.2.1≤32
structure ah7 (x:zL):Prop where
 id:VZ x.1
 nms:pR x.2.1=true
 top:x.2.2.1=[]∨VZ x.2.2.1
 meta':x.2.2.2.1.length≤64
 items:OkI x.2.2.2.2.1
structure OkB (x:QI):Prop where
 id:VZ x.1
 nms:pR x.2.1=true
 img:x.2.2.1=[]∨VZ x.2.2.1
 lay:VZ x.2.2.2.1
 meta':x.2.2.2.2.1.length≤64
 items:OkI x.2.2.2.2.2.1
def ah8(b:yL):List Tx:=b.2.1.map (·.1)++b.2.2.1.map (·.1)++b.2.2.2.1.map (·.1)
def ah9(b:yL):List Tx:=b.2.1.flatMap (·.2.2.1)++b.2.2.1.flatMap (·.2.1)++b.2.2.2.1.flatMap (·.2.1)
end Go.Ge
namespace Go.Ge
variable [Lp]
abbrev Cs:=(Int×Int×Unit)×Unit
structure BdX (b:yL):Prop extends VL b where
 xl:∀x∈b.2.1,BdL x
 xi:∀x∈b.2.2.1,BdI x
 xb:∀x∈b.2.2.2.1,BdB x
def agc(kind:Int)(b:yL):Nat:=if kind=1 then b.2.2.2.1.length else if kind=2 then b.2.2.1.length else b.2.1.length
structure V1 (kind:Int) (b:yL):Prop where
 I7:agc kind b≤32
 only:b.2.2.2.1.length+b.2.2.1.length+b.2.1.length=agc kind b
 ll:∀x∈b.2.1,OkL x
 il:∀x∈b.2.2.1,ah7 x
 bl:∀x∈b.2.2.2.1,OkB x
 ids:(ah8 b).Pairwise (fun x y=>ql x y=true)
 nms:(ah9 b).Nodup
end Go.Ge
namespace Go.Ge
variable [Lp]
def agd(b:List UInt8)(k:Nat):Nat:=if 148≤k∧k<156 then 32 else(b.getD k 0).toNat
def adU(b:List UInt8):Nat→Nat
 | 0=>0
 | k+1=>adU b k+agd b k
end Go.Ge
namespace Go.Ge
variable [Lp]
def mM(n:Nat):List UInt8:=List.replicate n 0
theorem vF(n:Nat):(mM n).length=n:=Wi
def age:List UInt8:=[117,115,116,97,114,0,48,48]
theorem V2(fs:List (List UInt8))(k:Nat)(hk:k<fs.length):fs.flatten=(fs.take k).flatten++(fs[k]++(fs.drop (k+1)).flatten):=by
 conv=>lhs;rw[←RG k fs,Y1 hk]
 rw[List.flatten_append,Zc]
theorem aa9(fs:List (List UInt8))(k:Nat)(hk:k<fs.length)(x:List UInt8):(fs.set k x).flatten=(fs.take k).flatten++(x++(fs.drop (k+1)).flatten):=by
 rw[List.set_eq_take_append_cons_drop,bG hk,List.flatten_append,Zc]
theorem aba(A z R s:List UInt8)(off:Nat)(hA:A.length=off)(hs:s.length≤z.length):over (az (A++(z++R))) (off:Int) (az s)=az (A++((s++z.drop s.length)++R)):=by
 unfold over;rw[zg,fB];have h1:(az (A++(z++R))).take off=az A:=by rw[BF,List.take_left' hA]
 have h2:(az (A++(z++R))).drop (off+s.length)=az (z.drop s.length++R):=by
  have:(A++(z++R)).drop (off+s.length)=z.drop s.length++R:=by
   rw[←hA,←ye,CL,RE hs]
  rw[←this];simp[az,List.map_drop]
 rw[h1,h2,←rR,←rR,qm,qm]
theorem ov(fs:List (List UInt8))(k:Nat)(hk:k<fs.length)(s:List UInt8)(n l off:Nat)(hz:fs[k]=mM n)(hl:s.length=l)(Xv:l≤n)(ho:(fs.take k).flatten.length=off)(h5:off+l≤512) :
  over (az fs.flatten) (off:Int) (iB (az s) (minus 512 (off:Int)))=az (fs.set k (s++mM (n-l))).flatten:=by
 have e:iB (az s) (minus 512 (off:Int))=az s:=by
  unfold iB minus;rw[Ny];rw[fB];omega
 rw[e,V2 fs k hk,aba _ _ _ _ off ho (by rw[hz,vF];omega),aa9 fs k hk,hz,hl];simp[mM]
def abb(h:Hd)(m u g z t:Nat)(kd:UInt8)(sm:List UInt8):List (List UInt8):=[h.1++mM (100-h.1.length),VU m 7++mM 1,VU u 7++mM 1,VU g 7++mM 1,VU z 11++mM 1,VU t 11++mM 1,sm,[kd]++mM 0,h.2.2.2.2.2.2.2.1++mM (100-h.2.2.2.2.2.2.2.1.length),age++mM 0,mM 80,mM 155,mM 12]
end Go.Ge
namespace Go.Ge
variable [Lp]
def W5:List (Int×Int×Unit):=[(0,(100,())),(100,(8,())),(108,(8,())),(116,(8,())),(124,(12,())),(136,(12,())),(148,(8,())),(156,(1,())),(157,(100,())),(257,(8,())),(345,(155,()))]
theorem V3:nS ()=some (W5,()):=rfl
structure Fits (h:Hd) (m u g z t:Nat) (kd:UInt8):Prop where
 path:h.1.length≤100
 link:h.2.2.2.2.2.2.2.1.length≤100
 m:h.2.2.1=(m:Int)∧m<2097152
 u:h.2.2.2.1=(u:Int)∧u<2097152
 g:h.2.2.2.2.1=(g:Int)∧g<2097152
 z:h.2.2.2.2.2.1=(z:Int)∧z<8589934592
 t:h.2.2.2.2.2.2.1=(t:Int)∧t<8589934592
 kind:(h.2.1=1∧kd=48)∨(h.2.1=2∧kd=53)∨(h.2.1=3∧kd=50)
def aia(h:Hd)(m u g z t:Nat)(kd:UInt8):List UInt8:=(abb h m u g z t kd (VU (adU (abb h m u g z t kd (mM 8)).flatten 512) 6++[0,32])).flatten
end Go.Ge
namespace Go.Ge
variable [Lp]
def GX(b:List UInt8)(a n:Nat):List UInt8:=(b.drop a).take n
theorem yO(b:List UInt8)(hb:b.length=512)(k:Int)(a n:Nat)(hk:idx W5 k=some ((a:Int),((n:Int),())))(h:a+n≤512):b9 (b,(k,()))=some (GX b a n,()):=by
 unfold b9;rw[V3,af];dsimp only;rw[hk,af];dsimp only;rw[show aD .i64 (a:Int) (n:Int)=((a+n:Nat):Int) from aa4 (by omega),cR (by omega) (by omega) (by simp only[len];omega),ai];unfold sub minus GX;rw[zg,show(((a+n:Nat):Int)-(a:Int)).toNat=n by omega]
section
variable (b:List UInt8)
theorem o0(hb:b.length=512):b9 (b,(0,()))=some (GX b 0 100,()):=yO b hb 0 0 100 rfl (by omega)
theorem o1(hb:b.length=512):b9 (b,(1,()))=some (GX b 100 8,()):=yO b hb 1 100 8 rfl (by omega)
theorem o2(hb:b.length=512):b9 (b,(2,()))=some (GX b 108 8,()):=yO b hb 2 108 8 rfl (by omega)
theorem o3(hb:b.length=512):b9 (b,(3,()))=some (GX b 116 8,()):=yO b hb 3 116 8 rfl (by omega)
theorem o4(hb:b.length=512):b9 (b,(4,()))=some (GX b 124 12,()):=yO b hb 4 124 12 rfl (by omega)
theorem o5(hb:b.length=512):b9 (b,(5,()))=some (GX b 136 12,()):=yO b hb 5 136 12 rfl (by omega)
end
end Go.Ge
namespace Go.Ge
variable [Lp]
section
variable {h:Hd} {m u g z t:Nat} {kd:UInt8}
end
end Go.Ge
namespace Go.Ge
variable [Lp]
def hA:Hd:=([100,47],(2,(493,(0,(0,(0,(1,([],()))))))))
def hC:Hd:=([100],(2,(0,(0,(0,(1,(0,([],()))))))))
end Go.Ge
namespace Go.Ge
variable [Lp]
abbrev Pt:=Hd×List UInt8×Unit
def hsize(h:Hd):Int:=h.2.2.2.2.2.1
def aib(h:Hd):UInt8:=if h.2.1=1 then 48 else if h.2.1=2 then 53 else 50
def aic(h:Hd):List UInt8:=aia h h.2.2.1.toNat h.2.2.2.1.toNat h.2.2.2.2.1.toNat h.2.2.2.2.2.1.toNat h.2.2.2.2.2.2.1.toNat (aib h)
def aid(p:Pt):Prop:=af4 p.1 100∧hsize p.1=(p.2.1.length:Int)
instance (p:Pt):Decidable (aid p):=inferInstanceAs (Decidable (_∧_))
def agf(n:Nat):Nat:=(512-n % 512) % 512
def body(p:Pt):List UInt8:=aic p.1++p.2.1++mM (agf p.2.1.length)
theorem TC(n:Nat):Lib.repeatL [0] n=mM n:=by
 induction n with
 | zero=>rfl
 | succ n ih =>
   show [0]++Lib.repeatL [0] n=mM (n+1)
   rw[ih];rfl
theorem TD(n:Nat)(hn:n≤1048576):xD ((n:Int),())=some (mM n,()):=by
 unfold xD;dsimp only;have:mE ([0],((n:Int),()))=some (mM n,()):=by
  show(e9 [0] (n:Int)).map (fun y=>(y,()))=_
  unfold e9;rw[bH (by rw[zg];simp only[o7,vS];omega),zg,TC];rfl
 rw[this,af]
structure aks (l:List Pt) (n:Nat):Prop where
 many:l.length≤n
 path:∀p∈l,p.1.1.length≤300
 link:∀p∈l,p.1.2.2.2.2.2.2.2.1.length≤300
 data:∀p∈l,p.2.1.length≤8192
end Go.Ge
namespace Go.Ge
variable [Lp]
abbrev Rd:=Bool×List UInt8×Int×Bool×Bool×Unit
def rd(r:List UInt8)(n:Int):Rd:=(true,(r,(n,(false,(false,())))))
end Go.Ge
namespace Go.Ge
variable [Lp]
end Go.Ge
namespace Go.Ge
variable [Lp]
set_option maxRecDepth 100000
end Go.Ge
namespace Go.Ge
variable [Lp]
abbrev Nd:=List UInt8×Int×Int×List UInt8×List UInt8×Unit
def aeH(p:List UInt8):Bool:=decide (p≠[])&&(parts p).all af5&&decide ((parts p).length≤8)&&decide (p.length≤92)&&decide ((BH p).2.length≤28)&&decide ((Tz (BH p).2).1=0)
def agh(n:Nd):Bool:=if n.2.1=1 then decide (n.2.2.2.2.1=[]∧n.2.2.2.1.length≤8192) else if n.2.1=2 then decide (n.2.2.2.2.1=[]∧n.2.2.2.1=[]) else if n.2.1=3 then decide (n.2.2.2.1=[]∧n.2.2.2.2.1≠[]∧n.2.2.2.2.1.length≤100∧0∉n.2.2.2.2.1) else false
def acV(n:Nd):Bool:=aeH n.1&&decide (0≤n.2.2.1)&&decide (n.2.2.1≤4095)&&agh n
end Go.Ge
namespace Go.Ge
variable [Lp]
def Sm(n:Nd):Prop:=n.1.length≤200∧n.2.2.2.2.1.length≤300∧n.2.2.2.1.length≤8192
def SmL(l:List Nd):Prop:=l.length≤4096∧∀x∈l,Sm x
def key(n:Nd):List (List UInt8):=parts n.1
def cmp(n:Nd)(p:List UInt8):Int:=cmpL (parts n.1) (parts p)
theorem SmL.at{l:List Nd}(h:SmL l){i:Nat}{x:Nd}(hx:l[i]?=some x):Sm x:=h.2 x (yc hx)
theorem SmL.take{l:List Nd}(h:SmL l)(k:Nat):SmL (l.take k):=⟨by rw[o6];have:=h.1;omega,fun x hx=>h.2 x (List.mem_of_mem_take hx)⟩
def Ord(l:List Nd):Prop:=∀(i j:Nat) (x y:Nd),i<j→l[i]?=some x→l[j]?=some y→cmpL (key x) (key y)<0
theorem Ord.mono{l:List Nd}(h:Ord l)(p:List UInt8):∀(i j:Nat) (x y:Nd),i≤j→l[i]?=some x→l[j]?=some y→cmp y p<0→cmp x p<0:=by
 intro i j x y hij hx hy hc;rcases yg i j with g|g
 ·exact VH (h i j x y g hx hy) hc
 ·obtain rfl:i=j:=by omega
  rw[hx] at hy;obtain rfl:=aG hy;exact hc
theorem Ord.take{l:List Nd}(h:Ord l)(k:Nat):Ord (l.take k):=fun i j x y hij hx hy=>by
 rw[uo] at hx hy;split at hx
 ·split at hy
  ·exact h i j x y hij hx hy
  ·cases hy
 ·cases hx
structure Plc (l:List Nd) (p:List UInt8) (k:Nat) (b:Bool):Prop where
 le:k≤l.length
 lo:∀(j:Nat) (y:Nd),j<k→l[j]?=some y→cmp y p<0
 hi:∀(j:Nat) (y:Nd),k≤j→l[j]?=some y→¬cmp y p<0
 is:b=true→∃x,l[k]?=some x∧x.1=p
 no:b=false→∀x∈l,x.1≠p
end Go.Ge
namespace Go.Ge
variable [Lp]
structure Valid (l:List Nd):Prop where
 I7:l.length≤64
 ord:Ord l
 may:∀x∈l,acV x=true
 up:∀x∈l,(BH x.1).1=[]∨∃y∈l,y.1=(BH x.1).1∧y.2.1=2
end Go.Ge
namespace Go.Ge
variable [Lp]
def aie(l:List Nd)(n:Nd):List Nd:=l.takeWhile (fun x=>decide (cmp x n.1<0))++n::l.dropWhile (fun x=>decide (cmp x n.1<0))
def gone(p:List UInt8)(x:Nd):Bool:=decide (x.1=p)||aa5 (parts x.1) (parts p)
def abc(l:List Nd)(p:List UInt8):List Nd:=l.filter fun x=>!gone p x
theorem Ord.filter{l:List Nd}(h:Ord l)(P:Nd→Bool):Ord (l.filter P):=by
 have hp:l.Pairwise fun x y=>cmpL (key x) (key y)<0:=by
  rw[adq];intro i j hi hj hij;exact h i j _ _ hij (ru hi) (ru hj)
 have hq:=hp.filter P;rw[adq] at hq;intro i j x y hij hx hy;obtain⟨h1,h2⟩:=List.getElem?_eq_some_iff.1 hx;obtain⟨h3,h4⟩:=List.getElem?_eq_some_iff.1 hy;rw[←h2,←h4];exact hq i j h1 h3 hij
theorem SmL.filter{l:List Nd}(h:SmL l)(P:Nd→Bool):SmL (l.filter P):=⟨jl (adw _ _) h.1,fun x hx=>h.2 x (List.mem_filter.1 hx).1⟩
end Go.Ge
namespace Go.Ge
variable [Lp]
open Classical in
def F0(l:List Nd)(n:Nd):List Nd×Int :=
 if ¬Valid l∨acV n=false then([],1) else
 if(BH n.1).1≠[]∧∀x∈l,x.1≠(BH n.1).1 then([],3) else
 if(BH n.1).1≠[]∧∀x∈l,x.1=(BH n.1).1→x.2.1≠2 then([],12) else
 let r:=if(∃x∈l,x.1=n.1∧x.2.1=2)∧n.2.1=2 then l.filter (fun x=>!decide (x.1=n.1)) else abc l n.1
 if 64≤r.length then([],5) else(aie r n,0)
end Go.Ge
namespace Go.Ge
variable [Lp]
def abd(l:List Nd)(p:List UInt8)(b:Bool):List Nd:=l.filter fun x=>!aa5 (parts x.1) (parts p)&&(!b||!decide (x.1=p))
end Go.Ge
namespace Go.Ge
variable [Lp]
end Go.Ge
namespace Go.Ge
variable [Lp]
def agi:Nd:=([],(0,(0,([],([],())))))
def findF(l:List Nd)(p:List UInt8):Nd×Bool×Unit:=match l.find? fun x=>decide (x.1=p) with
 | some x=>(x,(true,()))
 | none=>(agi,(false,()))
end Go.Ge
namespace Go.Ge
variable [Lp]
set_option synthInstance.maxHeartbeats 200000 in
set_option synthInstance.maxSize 4000 in
instance aiX:DecidableEq Nd:=inferInstance
end Go.Ge
namespace Go.Ge
variable [Lp]
def W6(l:List Nd)(n:Nd)(r:List Nd):Prop :=
 (((∃x∈l,x.1=n.1∧x.2.1=2)∧n.2.1=2)∧r=l.filter (fun x=>!decide (x.1=n.1)))∨((¬((∃x∈l,x.1=n.1∧x.2.1=2)∧n.2.1=2))∧r=abc l n.1)
theorem W6.sub{l r:List Nd}{n:Nd}(h:W6 l n r):(∀x∈r,x∈l∧x.1≠n.1)∧∃P,r=l.filter P:=by
 rcases h with ⟨_,rfl⟩|⟨_,rfl⟩
 ·refine⟨fun x hx=>?_,_,rfl⟩;have:=List.mem_filter.1 hx;simpa using this
 ·refine⟨fun x hx=>?_,_,rfl⟩;have:=List.mem_filter.1 hx;unfold gone at this;simp at this;exact⟨this.1,this.2.1⟩
end Go.Ge
namespace Go.Ge
variable [Lp]
def aif(ns:List (List UInt8)):Prop:=∀x∈ns,47∉x∧x≠[]
def QX(m:Int)(p:List UInt8):Nd:=(p,((2:Int),(m,(([]:List UInt8),(([]:List UInt8),())))))
def aih(ns:List (List UInt8))(j:Nat):List UInt8:=wH (ns.take (j+1))
theorem ML:∀(ns:List (List UInt8)) (k:Nat),(wH (ns.take k)).length≤(wH ns).length:=by
 intro ns;induction ns with
 | nil=>intro k;simp
 | cons x r ih =>
   intro k;cases k with
   | zero=>simp[wH]
   | succ k =>
     rw[Y9];cases r with
     | nil=>simp
     | cons y r =>
       cases k with
       | zero=>simp[wH]
       | succ k =>
         have:=ih (k+1);rw[Y9] at this⊢;simp only[wH,uV,o7] at this⊢;omega
def ShN(ns:List (List UInt8)):Prop:=aif ns∧ns.length≤16∧(wH ns).length≤200
theorem ShN.acW{ns:List (List UInt8)}(h:ShN ns)(k:Nat):(wH (ns.take k)).length≤200:=jl (ML ns k) h.2.2
theorem ShN.take{ns:List (List UInt8)}(h:ShN ns)(k:Nat):ShN (ns.take k):=⟨fun x hx=>h.1 x (List.mem_of_mem_take hx),by rw[o6];have:=h.2.1;omega,h.acW k⟩
def preB(ns:List (List UInt8))(k:Nat):Bool:=(List.range k).all fun j=>acV (QX 0 (aih ns j))
end Go.Ge
namespace Go.Ge
variable [Lp]
def abe(ns:List (List UInt8)):Bool:=preB ns ns.length&&decide (ns≠[])
def abf(p:Pt)(path:List UInt8):Nd:=(path,(p.1.2.1,(p.1.2.2.1,(p.2.1,(p.1.2.2.2.2.2.2.2.1,())))))
def abg(p:Pt):Bool:=decide (p.1.2.1=1)&&decide (p.2.1=[])
def abh(ns:List (List UInt8)):List (List UInt8):=ns.dropLast++[(Tz (ns.getLastD [])).2]
def F1(p:Pt):Int×List (List UInt8)×Bool :=
 if acR p.1.1=true then
  let ns:=names p.1.1
  if(Tz (ns.getLastD [])).1=1 then(1,(abh ns,abg p&&abe (abh ns)))
  else if(Tz (ns.getLastD [])).1=2 then(2,(ns.dropLast,abg p&&(decide (ns.dropLast=[])||abe ns.dropLast)))
  else if(Tz (ns.getLastD [])).1=0 then(0,(ns,(decide (ns=[])&&decide (p.1.2.1=2))||(acV (abf p (wH ns))&&abe ns)))
  else(0,([],false))
 else(0,([],false))
end Go.Ge
namespace Go.Ge
variable [Lp]
set_option maxRecDepth 100000
end Go.Ge
namespace Go.Ge
variable [Lp]
set_option maxRecDepth 100000
end Go.Ge
namespace Go.Ge
variable [Lp]
end Go.Ge
namespace Go.Ge
variable [Lp]
end Go.Ge
namespace Go.Ge
variable [Lp]
abbrev Stp:=((List UInt8×Unit)⊕((List UInt8×Unit)⊕(Unit⊕((Nd×Unit)⊕Unit))))
def adW(l:List Pt):Bool:=l.all fun p=>(F1 p).2.2
end Go.Ge
namespace Go.Ge
variable [Lp]
end Go.Ge
namespace Go.Ge
variable [Lp]
def aii(t:List Nd)(p:Pt):List Nd:=if(F1 p).1=1 then abc t (wH (F1 p).2.1) else if(F1 p).1=2 then abd t (wH (F1 p).2.1) false else t
end Go.Ge
namespace Go.Ge
variable [Lp]
def TE:List (List UInt8)→List UInt8→List Nd→List Nd×Int
 | [],_,t=>(t,0)
 | nm::r,at',t =>
   if(findF t (MF at' nm)).2.1=true∧(findF t (MF at' nm)).1.2.1=2 then TE r (MF at' nm) t
   else if(F0 t (QX 493 (MF at' nm))).2=0 then TE r (MF at' nm) (F0 t (QX 493 (MF at' nm))).1
   else([],(F0 t (QX 493 (MF at' nm))).2)
abbrev DS:=((List Nd×(List Nd×(Int×(List UInt8×(Int×Unit)))))×Unit)
def agk(ns:List (List UInt8))(t:List Nd)(n:Nd):List Nd×Int:=if(TE ns.dropLast [] t).2=0 then F0 (TE ns.dropLast [] t).1 n else([],(TE ns.dropLast [] t).2)
end Go.Ge
namespace Go.Ge
variable [Lp]
def abj(t:List Nd)(p:Pt):List Nd×Int:=if(F1 p).1=0∧(F1 p).2.1≠[] then agk (F1 p).2.1 t (abf p (wH (F1 p).2.1)) else(t,0)
def agl:List Pt→List Nd→List Nd×Int
 | [],t=>(t,0)
 | p::r,t=>if(abj t p).2=0 then agl r (abj t p).1 else([],(abj t p).2)
open Classical in
def aij(l:List Nd)(ps:List Pt):List Nd×Int:=if Valid l then(if adW ps=true then agl ps (ps.foldl aii l) else([],10)) else([],1)
end Go.Ge
namespace Go.Ge
variable [Lp]
def rd0:Rd:=(false,([],(0,(false,(false,())))))
abbrev Ns:=(Bool×Int×Unit)×(Unit×Unit×Unit)×Rd×Unit
def ns(k:Int):Ns:=((false,(k,())),(((),((),())),(rd0,())))
end Go.Ge
namespace Go.Ge
variable [Lp]
end Go.Ge
namespace Go.Ge
variable [Lp]
end Go.Ge
namespace Go.Ge
variable [Lp]
def Yn(q:List UInt8)(s:Option Nd):Option Nd:=match s with
 | some x=>if x.2.1=2 then some x else some (QX 493 q)
 | none=>some (QX 493 q)
end Go.Ge
namespace Go.Ge
variable [Lp]
end Go.Ge
namespace Go.Ge
variable [Lp]
def QY(q:List UInt8)(f:Option Nd→Option Nd):Prop:=(∃c,∀s,f s=c)∨(∀s,f s=Yn q s)∨(∀s,f s=s)
theorem Yo(q:List UInt8)(s:Option Nd):Yn q (Yn q s)=Yn q s:=by
 cases s with
 | none=>rfl
 | some x =>
   show Yn q (if x.2.1=2 then some x else some (QX 493 q))=if x.2.1=2 then some x else some (QX 493 q)
   by_cases h:x.2.1=2
   ·rw[bG h];show(if x.2.1=2 then some x else some (QX 493 q))=_
    rw[bG h]
   ·rw[bH h];rfl
theorem QY.comp{q:List UInt8}{f g:Option Nd→Option Nd}(hf:QY q f)(hg:QY q g):QY q (fun s=>f (g s)):=by
 rcases hf with ⟨c,hc⟩|hf|hf
 ·exact .inl ⟨c,fun s=>hc _⟩
 ·rcases hg with ⟨c,hc⟩|hg|hg
  ·exact .inl ⟨Yn q c,fun s=>by show f (g s)=_;rw[hf,hc]⟩
  ·exact .inr (.inl fun s=>by show f (g s)=_;rw[hf,hg,Yo])
  ·exact .inr (.inl fun s=>by show f (g s)=_;rw[hf,hg])
 ·rcases hg with ⟨c,hc⟩|hg|hg
  ·exact .inl ⟨c,fun s=>by show f (g s)=_;rw[hf,hc]⟩
  ·exact .inr (.inl fun s=>by show f (g s)=_;rw[hf,hg])
  ·exact .inr (.inr fun s=>by show f (g s)=_;rw[hf,hg])
def rdF(s:List UInt8):List Pt×Int:=match zC (s,()) with
 | some (l,e,_)=>(l,e)
 | none=>([],10)
def TF(l:List Nd)(s:List UInt8):List Nd×Int:=if(rdF s).2=0 then aij l (rdF s).1 else([],10)
def TG:List (List UInt8)→List Nd→List Nd×Int
 | [],t=>(t,0)
 | s::r,t=>if(TF t s).2=0 then TG r (TF t s).1 else([],(TF t s).2)
theorem Yp:∀(r:List (List UInt8)) (s:List UInt8) (t u:List Nd),TG r t=(u,0)→TG (r++[s]) t=if(TF u s).2=0 then((TF u s).1,0) else([],(TF u s).2):=by
 intro r;induction r with
 | nil =>
   intro s t u h;have:t=u:=congrArg Prod.fst h;subst this;rfl
 | cons a r ih =>
   intro s t u h;rw[Zi];unfold TG at h⊢;by_cases h0:(TF t a).2=0
   ·rw[bG h0] at h⊢;exact ih s _ u h
   ·rw[bH h0] at h;exact absurd (congrArg Prod.snd h) h0
end Go.Ge
namespace Go.Ge
variable [Lp]
abbrev PS:=(List UInt8×(List Pt×(Bool×(Unit×Unit))))×(List Pt×Unit)
end Go.Ge
namespace Go.Ge
variable [Lp]
def Ov(ls:List aI)(id:Tx):Option Nat:=ls.findIdx? fun x=>decide (x.1=id)
theorem abk{ls:List aI}{id:Tx}{i:Nat}{x:aI}(hx:ls[i]?=some x)(hp:x.1=id)(hj:∀(j:Nat) (y:aI),j<i→ls[j]?=some y→decide (y.1=id)=false):Ov ls id=some i:=by
 unfold Ov;rw[adY];have hlt:=bw hx;refine⟨hlt,?_,fun j hji=>?_⟩
 ·rw[ru hlt] at hx;rw[aG hx,kj hp]
 ·have:=hj j ls[j] hji (ru (by omega));rw[this];simp
theorem TH{ls:List aI}{id:Tx}(hn:∀(i:Nat) (x:aI),ls[i]?=some x→decide (x.1=id)=false):Ov ls id=none:=by
 unfold Ov;rw[Y2];intro x hx;obtain⟨i,hi⟩:=cm.1 hx;exact hn i x hi
theorem QZ{ls:List aI}{id:Tx}{i:Nat}(h:Ov ls id=some i):∃x,ls[i]?=some x∧x.1=id:=by
 unfold Ov at h;rw[adY] at h;obtain⟨h1,h2,_⟩:=h;exact⟨ls[i],ru h1,yd h2⟩
theorem acX{ls:List aI}{id:Tx}:(∃i,Ov ls id=some i)↔∃x∈ls,x.1=id:=by
 constructor
 ·rintro⟨i,h⟩;obtain⟨x,hx,he⟩:=QZ h;exact⟨x,yc hx,he⟩
 ·rintro⟨x,hx,he⟩;cases h:Ov ls id with
  | some i=>exact⟨i,rfl⟩
  | none =>
    unfold Ov at h;rw[Y2] at h;have:=h x hx;simp[he] at this
def EJ(ls:List aI):Nat→Tx→List aI→List aI×Int
 | n,id,acc=>match Ov ls id with
   | none=>([],3)
   | some i=>match n,ls[i]? with
     | 0,_=>([],5)
     | n+1,some x=>if x.2.1=[] then(acc++[x],0) else EJ ls n x.2.1 (acc++[x])
     | _,none=>([],3)
def bZ(ls:List aI)(id:Tx):List aI×Int:=EJ ls 16 id []
theorem acY{ls:List aI}:∀{n:Nat} {id:Tx} {acc:List aI},(∀x∈acc,x∈ls)→(∀x∈(EJ ls n id acc).1,x∈ls)∧(EJ ls n id acc).1.length≤n+acc.length:=by
 intro n;induction n with
 | zero =>
   intro id acc h;unfold EJ;cases Ov ls id<;>simp
 | succ n ih =>
   intro id acc h;unfold EJ;cases hl:Ov ls id with
   | none=>simp
   | some i =>
     dsimp only;cases hx:ls[i]? with
     | none=>simp
     | some x =>
       dsimp only;have h2:∀y∈acc++[x],y∈ls:=fun y hy=>by
        rcases List.mem_append.1 hy with hy|hy
        ·exact h y hy
        ·rw[Xh] at hy;subst hy;exact yc hx
       split
       ·exact⟨h2,by rw[uV];show _+1≤_;omega⟩
       ·obtain⟨a,b⟩:=ih (id:=x.2.1) h2;refine⟨a,?_⟩;rw[uV] at b;have:([x]:List aI).length=1:=rfl;omega
theorem Ia{ls:List aI}{id:Tx}:(∀x∈(bZ ls id).1,x∈ls)∧(bZ ls id).1.length≤16:=by
 obtain⟨a,b⟩:=acY (ls:=ls) (n:=16) (id:=id) (acc:=[]) (fun x hx=>by cases hx);exact⟨a,by unfold bZ;simpa using b⟩
end Go.Ge
namespace Go.Ge
variable [Lp]
def Ow(ls:List aI)(ds:List Tx)(id:Tx):Tx:=match Ov ls id with|some i=>(ds[i]?).getD []|none=>[]
def vG(ls:List aI)(ds:List Tx)(id:Tx):List Nd×Int :=
 if(bZ ls id).2=0 then TG ((bZ ls id).1.reverse.map fun x=>Ow ls ds x.1) [] else([],(bZ ls id).2)
theorem V4(s:cI)(i:Nat):mL (s,((i:Int),()))=some ((s.2.2.2.1[i]?).getD [],()):=by
 unfold mL;dsimp only;by_cases h:i<s.2.2.2.1.length
 ·have hx:s.2.2.2.1[i]?=some s.2.2.2.1[i]:=ru h;rw[aK h,ai,aS hx,af,hx];rfl
 ·have hx:s.2.2.2.1[i]?=none:=PB (by omega);rw[bM (by unfold len;omega),ak,hx];rfl
def abl(s:Tx):Prop:=(rdF s).2=0∧adW (rdF s).1=true
structure Q0 (ls:List aI) (ds:List Tx):Prop where
 same:ds.length=ls.length
 chain:∀x∈ls,(bZ ls x.1).2=0
 each:∀(i:Nat) (x:aI) (d:Tx),ls[i]?=some x→ds[i]?=some d→x.2.2.2.2.2.2.1=true∧x.2.2.2.2.2.1=0∧x.2.2.2.2.1=(d.length:Int)∧x.2.2.2.1=s7 d∧abl d∧(vG ls ds x.1).2=0
end Go.Ge
namespace Go.Ge
variable [Lp]
structure BdS (s:cI):Prop where
 ll:s.2.2.1.length≤40
 il:s.2.1.length≤40
 bl:s.1.length≤40
 xl:∀x∈s.2.2.1,BdL x
 xi:∀x∈s.2.1,BdI x
 xb:∀x∈s.1,BdB x
 dl:∀d∈s.2.2.2.1,d.length≤8192
 ml:s.2.2.2.2.1.length≤1000000
def agm(s:cI)(x:zL):Prop:=x.2.2.1=[]∨∃y∈s.2.2.1,y.1=x.2.2.1
def abm(s:cI)(x:QI):Prop:=(x.2.2.1=[]∨∃y∈s.2.1,y.1=x.2.2.1)∧∃y∈s.2.2.1,y.1=x.2.2.2.1
def acZ(s:cI)(x:QV):Prop:=(∃y∈s.2.2.1,y.1=x.1)∧1≤x.2.1∧x.2.1≤1000
structure OkS (s:cI):Prop where
 b:V1 1 (0,([],([],(s.1,()))))
 i:V1 2 (0,([],(s.2.1,([],()))))
 l:V1 3 (0,(s.2.2.1,([],([],()))))
 lays:Q0 s.2.2.1 s.2.2.2.1
 aku:s.2.2.2.2.1.length≤32
 tops:∀x∈s.2.1,agm s x
 refs:∀x∈s.1,abm s x
 mts:∀x∈s.2.2.2.2.1,acZ s x
 aiZ:(s.2.2.2.2.1.map (·.1)).Pairwise fun x y=>ql x y=true
end Go.Ge
namespace Go.Ge
variable [Lp]
section
variable {α:Type} (key:α→Tx)
def MM(l:List α)(x:α):List α:=l.takeWhile (fun y=>ql (key y) (key x))++[x]++l.dropWhile (fun y=>ql (key y) (key x))
def gQ(l:List α)(p:Tx):Nat:=(l.takeWhile fun y=>ql (key y) p).length
def RD(l:List α):Prop:=(l.map key).Pairwise fun x y=>ql x y=true
theorem Ib(l:List α)(p:Tx):gQ key l p≤l.length:=by
 unfold gQ;have:=congrArg List.length (abQ (p:=fun y:α=>ql (key y) p) (l:=l));rw[uV] at this;omega
theorem zS(l:List α)(x:α):l.take (gQ key l (key x))=l.takeWhile (fun y=>ql (key y) (key x))∧l.drop (gQ key l (key x))=l.dropWhile (fun y=>ql (key y) (key x)):=by
 have e:=abQ (p:=fun y:α=>ql (key y) (key x)) (l:=l);refine⟨?_,?_⟩
 ·unfold gQ
  conv=>lhs;rw[←e]
  rw[List.take_left'];rw[e]
 ·unfold gQ
  conv=>lhs;rw[←e]
  rw[List.drop_left'];rw[e]
theorem V5(l:List α)(x:α)(hl:l.length≤1000000):JZ l ((gQ key l (key x):Nat):Int) [x]=some (MM key l x):=by
 have hk:=Ib key l (key x);unfold JZ MM;rw[show inside 0 ((gQ key l (key x):Nat):Int) (len l)=true from cR (by decide) (by omega) (by unfold len;omega),gD (by simp only[o7,vS];omega)];rw[zg,(zS key l x).1,(zS key l x).2];rfl
theorem V6{S R:Type}{f:S→Option (S⊕R)}(l:List α)(p:Tx)(hl:l.length≤1000000)(mk:Int→S)(hit:Nat→R)(fin:R)
  (hs:∀(i:Nat) (y:α),l[i]?=some y→f (mk (i:Int))=some (if ql (key y) p=true then .inl (mk ((i+1:Nat):Int)) else .inr (hit i))) (he:f (mk (l.length:Int))=some (.inr fin)) :
  Loop f (mk 0)=some (if gQ key l p<l.length then hit (gQ key l p) else fin):=by
 have hpl:∀k:Nat,k≤l.length→(∀(j:Nat) (y:α),j<k→l[j]?=some y→ql (key y) p=true)→(∀y,l[k]?=some y→ql (key y) p=false)→gQ key l p=k:=by
  intro k hk h1 h2;have e:l.takeWhile (fun y=>ql (key y) p)=l.take k:=by
   clear hs he
   revert k
   induction l with
   | nil=>intro k hk _ _;simp
   | cons a r ih =>
     intro k hk h1 h2;cases k with
     | zero=>rw[Za,h2 a rfl];rfl
     | succ k =>
       rw[Za,h1 0 a (by omega) rfl,bG rfl,Y9,ih (by simp at hl;omega) k (by simp at hk;omega) (fun j y hj hy=>h1 (j+1) y (by omega) hy) (fun y hy=>h2 y hy)]
  unfold gQ;rw[e,o6];omega
 rcases xA (f:=f) l mk (fun _ y=>!ql (key y) p) (fun i _=>hit i) fin (by omega) (fun i y hy hi ha=>by
  rw[hs i y hy];cases ql (key y) p<;>rfl) he with ⟨i,x,hx,hp,hj,h⟩|⟨hn,h⟩
 ·have hi:=bw hx;have:=hpl i (by omega) (fun j y hji hy=>by simpa using hj j y hji hy) (fun y hy=>by
   rw[hx] at hy;obtain rfl:=aG hy;simpa using hp)
  rw[h,this,bG hi]
 ·have:=hpl l.length (mq _) (fun j y _ hy=>by simpa using hn j y hy) (fun y hy=>by rw[PB (mq _)] at hy;cases hy);rw[h,this,bH (by omega)]
theorem Px(l:List α)(x:α):(MM key l x).Perm (x::l):=by
 unfold MM;have e:=abQ (p:=fun y:α=>ql (key y) (key x)) (l:=l);have h:(l.takeWhile (fun y=>ql (key y) (key x))++[x]++l.dropWhile (fun y=>ql (key y) (key x))).Perm (x::(l.takeWhile (fun y=>ql (key y) (key x))++l.dropWhile (fun y=>ql (key y) (key x)))):=by
  rw[qm];exact List.perm_middle
 rw[e] at h;exact h
theorem abn{l:List α}{x y:α}:y∈MM key l x↔y=x∨y∈l:=by rw[(Px key l x).mem_iff,OX]
theorem abo(l:List α)(x:α):(MM key l x).length=l.length+1:=by rw[(Px key l x).length_eq,o7]
theorem RD.inj{l:List α}(h:RD key l){x y:α}(hx:x∈l)(hy:y∈l)(e:key x=key y):x=y:=by
 unfold RD at h;rw[Zf] at h;obtain⟨i,hi⟩:=cm.1 hx;obtain⟨j,hj⟩:=cm.1 hy;have h1:=bw hi;have h2:=bw hj;rw[ru h1] at hi;rw[ru h2] at hj;obtain rfl:=aG hi;obtain rfl:=aG hj;rcases Zg i j with q|q|q
 ·have:=List.pairwise_iff_getElem.1 h i j h1 h2 q;rw[e,vp] at this;cases this
 ·subst q;rfl
 ·have:=List.pairwise_iff_getElem.1 h j i h2 h1 q;rw[e,vp] at this;cases this
end
end Go.Ge
namespace Go.Ge
variable [Lp]
abbrev ac0:=Int×Tx×Int×Tx×Unit
def TI(e:Int):ac0:=(e,([],(0,([],()))))
def TJ(id:Tx):ac0:=(0,(id,(0,([],()))))
def vH(s:cI):List Nm:=s.2.2.1.flatMap ofL
structure Yq (s:cI):Prop where
 ll:s.2.2.1.length≤40
 il:s.2.1.length≤40
 bl:s.1.length≤40
 ln:∀x∈s.2.2.1,oA x.2.2.1
 qO:∀x∈s.2.1,oA x.2.1
 bn:∀x∈s.1,oA x.2.1
 it:∀x∈s.2.1,H9 x.2.2.2.2.1
theorem BdS.hd{s:cI}(h:BdS s):Yq s:=⟨h.ll,h.il,h.bl,fun x hx=>(h.xl x hx).2.2.1,fun x hx=>(h.xi x hx).2.1,fun x hx=>(h.xb x hx).2.1,fun x hx=>(h.xi x hx).2.2.2⟩
theorem Yq.aeI{s:cI}(h:Yq s):VL (0,(s.2.2.1,([],([],())))):=⟨h.ll,h.ln,by simp,fun x hx=>(by cases hx),by simp,fun x hx=>(by cases hx)⟩
theorem Ic{s:cI}(h:Yq s):Small (vH s):=X3 3 _ h.aeI
theorem W7{s:cI}(h:Yq s):(vH s).length≤40:=jl (sC K2 _) h.ll
theorem yP(s:cI)(h:Yq s):jK (s,())=some (vH s,()):=by
 unfold jK;dsimp only;rw[QM 3 _ h.aeI,af];rfl
theorem Km(s:cI)(ref:Tx)(h:Yq s):fC (s,(ref,()))=some (vE (vH s) ref):=by
 unfold fC;dsimp only;rw[yP s h,af,J7 _ _ (Ic h) (by have:=W7 h;omega),af]
theorem Yr(l:List Tx)(h:l.length≤4294967296):bD (l,())=some (l,()):=zK l h
end Go.Ge
namespace Go.Ge
variable [Lp]
theorem zT(l:List Tx)(h:l.length≤4294967296):dL (l,(l,()))=some (true,()):=by rw[J5 l l h,kj rfl]
theorem MN(l:List Item)(h:H9 l):fP (l,(l,()))=some (true,()):=MK l (by have:=h.1;omega)
theorem qW(a:Tx):bX a a=true:=kj rfl
theorem CF{α:Type}{f:(Bool×Int×Unit)×Unit→Option (((Bool×Int×Unit)×Unit)⊕(Nat×(Bool×Int×Unit)×Unit))}(l:List α)(hl:l.length≤1000000)
  (hs:∀(i:Nat) (x:α),l[i]?=some x→x∈l→i<l.length→f ((false,((i:Int),())),())=some (.inl ((false,(aD .i64 (i:Int) 1,())),()))) (he:f ((false,((l.length:Int),())),())=some (.inr (0,((false,((l.length:Int),())),())))) :
  Loop f ((false,((0:Int),())),())=some (0,((false,((l.length:Int),())),())) :=
 dw l.length (fun j:Nat=>((false,((j:Int),())),())) (fun j hj=>by
  have hx:l[j]?=some l[j]:=ru hj;rw[hs j l[j] hx (List.getElem_mem hj) hj,cG (by omega)]) he
theorem V7(l:List QI)(hl:l.length≤1000000)(h:∀x∈l,oA x.2.1∧H9 x.2.2.2.2.2.1):lu (l,(l,()))=some (true,()):=by
 unfold lu;dsimp only;rw[vm,cg,ak,CF (f:=iT (l,(l,()))) l hl (fun i x hx hm hi=>by
  unfold iT;dsimp only;rw[aK hi,ai,aS hx,af,af];simp only[qW,ai,ak,cg,cN,af,zT _ (h x hm).1.small,MN _ (h x hm).2]) (by unfold iT;dsimp only;rw[aZ,ak];rfl),af]
 rfl
theorem TK(l:List zL)(hl:l.length≤1000000)(h:∀x∈l,oA x.2.1∧H9 x.2.2.2.2.1):j7 (l,(l,()))=some (true,()):=by
 unfold j7;dsimp only;rw[vm,cg,ak,CF (f:=gY (l,(l,()))) l hl (fun i x hx hm hi=>by
  unfold gY;dsimp only;rw[aK hi,ai,aS hx,af,af];simp only[qW,ai,ak,cg,cN,af,zT _ (h x hm).1.small,MN _ (h x hm).2]) (by unfold gY;dsimp only;rw[aZ,ak];rfl),af]
 rfl
theorem TL(l:List aI)(hl:l.length≤1000000)(h:∀x∈l,oA x.2.2.1):j8 (l,(l,()))=some (true,()):=by
 unfold j8;dsimp only;rw[vm,cg,ak,CF (f:=gZ (l,(l,()))) l hl (fun i x hx hm hi=>by
  unfold gZ;dsimp only;rw[aK hi,ai,aS hx,af,af];have eb:eqB x.2.2.2.2.2.2.1 x.2.2.2.2.2.2.1=true:=by unfold eqB;simp
  simp only[qW,vm,eb,ai,ak,cg,cN,af,zT _ (h x hm).small]) (by unfold gZ;dsimp only;rw[aZ,ak];rfl),af]
 rfl
theorem TM(l:List QV)(hl:l.length≤1000000):j9 (l,(l,()))=some (true,()):=by
 unfold j9;dsimp only;rw[vm,cg,ak,CF (f:=hU (l,(l,()))) l hl (fun i x hx hm hi=>by
  unfold hU;dsimp only;rw[aK hi,ai,aS hx,af,af];simp only[qW,vm,ai,ak,cg,cN];rfl) (by unfold hU;dsimp only;rw[aZ,ak];rfl),af]
 rfl
end Go.Ge
namespace Go.Ge
variable [Lp]
end Go.Ge
namespace Go.Ge
variable [Lp]
end Go.Ge
namespace Go.Ge
variable [Lp]
structure BkS (s:cI):Prop where
 il:∀x∈s.2.1,x.1.length≤1048576∧x.2.2.1.length≤1048576
 bl:∀x∈s.1,x.1.length≤1048576∧x.2.2.1.length≤1048576∧x.2.2.2.1.length≤1048576
 dg:∀x∈s.2.2.1,x.2.2.2.1.length≤1048576
end Go.Ge
namespace Go.Ge
abbrev abp:Ty:=.pair .str (.pair .str (.pair .str .unit))
abbrev agn:Ty:=.pair .str (.pair (.slice .str) (.pair .str (.pair .str (.pair .str (.pair (.slice abp) .unit)))))
abbrev ac1:Ty:=.pair .str (.pair (.slice .str) (.pair .str (.pair .str (.pair (.slice abp) .unit))))
abbrev ac2:Ty:=.pair .str (.pair .str (.pair (.slice .str) (.pair .str (.pair (.int .i64) (.pair (.int .i64) (.pair .bool .unit))))))
abbrev ac3:Ty:=.pair .str (.pair (.int .i64) .unit)
abbrev agZ:Ty:=.pair (.slice agn) (.pair (.slice ac1) (.pair (.slice ac2) (.pair (.slice .str) (.pair (.slice ac3) .unit))))
end Go.Ge
namespace Go.Ge
variable [Lp]
theorem RD.idx{α:Type}{key:α→Tx}{l:List α}(h:RD key l){i j:Nat}{x y:α}(hx:l[i]?=some x)(hy:l[j]?=some y)(e:key x=key y):i=j:=by
 unfold RD at h;rw[Zf] at h;obtain⟨hi,rfl⟩:=List.getElem?_eq_some_iff.1 hx;obtain⟨hj,rfl⟩:=List.getElem?_eq_some_iff.1 hy;have hp:=List.pairwise_iff_getElem.1 h;rcases Zg i j with q|q|q
 ·have:=hp i j hi hj q;rw[e,vp] at this;cases this
 ·exact q
 ·have:=hp j i hj hi q;rw[e,vp] at this;cases this
theorem Q1{ls:List aI}(hu:RD (·.1) ls){i:Nat}{x:aI}(hx:ls[i]?=some x):Ov ls x.1=some i:=by
 obtain⟨j,hj⟩:=acX.2 ⟨x,yc hx,rfl⟩;obtain⟨y,hy,he⟩:=QZ hj;rw[hj,hu.idx hy hx he]
theorem aeJ{ls:List aI}{id:Tx}(h:∀x∈ls,x.1≠id):Ov ls id=none:=TH fun i x hx=>mu (h x (yc hx))
theorem BQ{ls:List aI}{id:Tx}(h:∀x∈ls,x.1≠id)(n:Nat)(acc:List aI):EJ ls n id acc=([],3):=by
 unfold EJ;rw[aeJ h]
theorem MO{ls:List aI}(hu:RD (·.1) ls){x:aI}(hx:x∈ls)(acc:List aI):EJ ls 0 x.1 acc=([],5):=by
 obtain⟨i,hi⟩:=cm.1 hx;unfold EJ;rw[Q1 hu hi]
theorem sJ{ls:List aI}(hu:RD (·.1) ls){x:aI}(hx:x∈ls)(n:Nat)(acc:List aI):EJ ls (n+1) x.1 acc=if x.2.1=[] then(acc++[x],0) else EJ ls n x.2.1 (acc++[x]):=by
 obtain⟨i,hi⟩:=cm.1 hx
 conv=>lhs;unfold EJ
 rw[Q1 hu hi];dsimp only;rw[hi]
theorem ac4{ls ls':List aI}(hu:RD (·.1) ls)(Nw:RD (·.1) ls'){q:Tx}(h:∀x:aI,x.1≠q→(x∈ls'↔x∈ls))(hp:∀x∈ls,x.2.1≠q) :
  ∀(n:Nat) (id:Tx) (acc:List aI),id≠q→EJ ls' n id acc=EJ ls n id acc:=by
 intro n;induction n with
 | zero =>
   intro id acc hid;by_cases hx:∃x∈ls,x.1=id
   ·obtain⟨x,hx,rfl⟩:=hx;rw[MO hu hx,MO Nw ((h x hid).2 hx)]
   ·rw[BQ (fun x hx' e=>hx ⟨x,hx',e⟩),BQ (fun x hx' e=>hx ⟨x,(h x (by rw[e];exact hid)).1 hx',e⟩)]
 | succ n ih =>
   intro id acc hid;by_cases hx:∃x∈ls,x.1=id
   ·obtain⟨x,hx,rfl⟩:=hx;rw[sJ hu hx,sJ Nw ((h x hid).2 hx),ih _ _ (hp x hx)]
   ·rw[BQ (fun x hx' e=>hx ⟨x,hx',e⟩),BQ (fun x hx' e=>hx ⟨x,(h x (by rw[e];exact hid)).1 hx',e⟩)]
theorem Ys{ls:List aI}(hu:RD (·.1) ls):∀(n:Nat) (id:Tx) (acc:List aI),(EJ ls n id acc).2=0 →
  ∃c,(EJ ls n id acc).1=acc++c∧∀(m:Nat) (acc':List aI),c.length≤m→EJ ls m id acc'=(acc'++c,0):=by
 intro n;induction n with
 | zero =>
   intro id acc h;by_cases hx:∃x∈ls,x.1=id
   ·obtain⟨x,hx,rfl⟩:=hx;rw[MO hu hx] at h;cases h
   ·rw[BQ (fun x hx' e=>hx ⟨x,hx',e⟩)] at h;cases h
 | succ n ih =>
   intro id acc h;by_cases hx:∃x∈ls,x.1=id
   ·obtain⟨x,hx,rfl⟩:=hx;rw[sJ hu hx] at h⊢;by_cases hp:x.2.1=[]
    ·rw[bG hp] at h⊢;refine⟨[x],rfl,fun m acc' hm=>?_⟩;cases m with
     | zero=>cases hm
     | succ m=>rw[sJ hu hx,bG hp]
    ·rw[bH hp] at h⊢;obtain⟨c,c1,c2⟩:=ih _ _ h;refine⟨x::c,by rw[c1];simp,fun m acc' hm=>?_⟩;cases m with
     | zero=>cases hm
     | succ m =>
       rw[sJ hu hx,bH hp,c2 m _ (by simpa using hm)];simp
   ·rw[BQ (fun x hx' e=>hx ⟨x,hx',e⟩)] at h;cases h
theorem Yt{ls:List aI}(hu:RD (·.1) ls){x:aI}(hx:x∈ls)(h:(bZ ls x.1).2=0):x.2.1=[]∨∃y∈ls,y.1=x.2.1:=by
 unfold bZ at h;rw[sJ hu hx] at h;by_cases hp:x.2.1=[]
 ·exact .inl hp
 ·rw[bH hp] at h;right;apply YS;intro q;rw[BQ (fun y hy e=>q ⟨y,hy,e⟩)] at h;cases h
def Yu(ls:List aI)(ds:List Tx)(x:aI)(d:Tx):Prop:=∃i:Nat,ls[i]?=some x∧ds[i]?=some d
theorem W9{ls:List aI}{ds:List Tx}{x:aI}{d:Tx}:Yu ls ds x d↔(x,d)∈ls.zip ds:=by
 unfold Yu;rw[cm];constructor
 ·rintro⟨i,h1,h2⟩;exact⟨i,by rw[adr];exact⟨h1,h2⟩⟩
 ·rintro⟨i,h⟩;rw[adr] at h;exact⟨i,h.1,h.2⟩
theorem Q2{p1 r1:List aI}{p2 r2:List Tx}{x y:aI}{d e:Tx}(h:p1.length=p2.length):Yu (p1++[x]++r1) (p2++[d]++r2) y e↔(y=x∧e=d)∨Yu (p1++r1) (p2++r2) y e:=by
 rw[W9,W9,qm,qm,List.zip_append h,List.zip_append h];simp only[adx,List.zip_cons_cons,List.mem_append,OX,PE];constructor
 ·rintro(q|q|q)
  ·exact .inr (.inl q)
  ·exact .inl q
  ·exact .inr (.inr q)
 ·rintro(q|q|q)
  ·exact .inr (.inl q)
  ·exact .inl q
  ·exact .inr (.inr q)
theorem K7{ls:List aI}{ds:List Tx}(hl:ds.length=ls.length){x:aI}(hx:x∈ls):∃d,Yu ls ds x d:=by
 obtain⟨i,hi⟩:=cm.1 hx;have:=bw hi;exact⟨ds[i],i,hi,ru (by omega)⟩
theorem Yu.mem{ls:List aI}{ds:List Tx}{x:aI}{d:Tx}(h:Yu ls ds x d):x∈ls:=by
 obtain⟨i,h1,_⟩:=h;exact yc h1
theorem F2{ls:List aI}{ds:List Tx}(hu:RD (·.1) ls){x:aI}{d:Tx}(h:Yu ls ds x d):Ow ls ds x.1=d:=by
 obtain⟨i,h1,h2⟩:=h;unfold Ow;rw[Q1 hu h1];dsimp only;rw[h2];rfl
theorem Yv{ls ls':List aI}{ds ds':List Tx}(hu:RD (·.1) ls)(Nw:RD (·.1) ls')(hl:ds.length=ls.length)(hl':ds'.length=ls'.length){q:Tx}
  (h:∀(x:aI) (d:Tx),x.1≠q→(Yu ls' ds' x d↔Yu ls ds x d)) (hp:∀x∈ls,x.2.1≠q) (hq:(∀x∈ls,x.1≠q)∨(∀x∈ls',x.1≠q)) {id:Tx} (hid:id≠q) :
  bZ ls' id=bZ ls id∧vG ls' ds' id=vG ls ds id:=by
 have hm:∀x:aI,x.1≠q→(x∈ls'↔x∈ls):=fun x hx=>by
  constructor
  ·intro k;obtain⟨d,hd⟩:=K7 hl' k;exact((h x d hx).1 hd).mem
  ·intro k;obtain⟨d,hd⟩:=K7 hl k;exact((h x d hx).2 hd).mem
 have hc:bZ ls' id=bZ ls id:=ac4 hu Nw hm hp 16 id [] hid;refine⟨hc,?_⟩;unfold vG;rw[hc];have:((bZ ls id).1.reverse.map fun x=>Ow ls' ds' x.1)=((bZ ls id).1.reverse.map fun x=>Ow ls ds x.1):=by
  apply YX;intro x hx;rw[List.mem_reverse] at hx;have k1:=(Ia (ls:=ls) (id:=id)).1 x hx;have k2:=(Ia (ls:=ls') (id:=id)).1 x (by rw[hc];exact hx);have hxq:x.1≠q:=hq.elim (fun g=>g x k1) (fun g=>g x k2);obtain⟨d,hd⟩:=K7 hl k1;rw[F2 hu hd,F2 Nw ((h x d hxq).2 hd)]
 rw[this]
end Go.Ge
namespace Go.Ge
variable [Lp]
theorem abq{ls:List aI}{ds:List Tx}{id:Tx}(h:(vG ls ds id).2=0):(bZ ls id).2=0∧vG ls ds id=TG ((bZ ls id).1.reverse.map fun x=>Ow ls ds x.1) []:=by
 unfold vG at h⊢;by_cases c:(bZ ls id).2=0
 ·rw[bG c];exact⟨c,rfl⟩
 ·rw[bH c] at h;exact absurd h c
theorem Q0.more{p1 r1:List aI}{p2 r2:List Tx}{x:aI}{d:Tx}(h12:p1.length=p2.length)(hu:RD (·.1) (p1++r1))(Nw:RD (·.1) (p1++[x]++r1))(ho:Q0 (p1++r1) (p2++r2))
  (hnew:∀y∈p1++r1,y.1≠x.1) (hne:x.1≠[]) (hpx:x.2.1≠x.1) (hpar:x.2.1=[]∨((bZ (p1++r1) x.2.1).2=0∧(bZ (p1++r1) x.2.1).1.length<16))
  (hd:x.2.2.2.2.2.2.1=true∧x.2.2.2.2.2.1=0∧x.2.2.2.2.1=(d.length:Int)∧x.2.2.2.1=s7 d∧abl d)
  (hap:(TF (if x.2.1=[] then [] else(vG (p1++r1) (p2++r2) x.2.1).1) d).2=0):Q0 (p1++[x]++r1) (p2++[d]++r2):=by
 have hlen:(p2++r2).length=(p1++r1).length:=ho.same;have hlen':(p2++[d]++r2).length=(p1++[x]++r1).length:=by
  simp only[uV,YV] at hlen⊢;omega
 have ig:∀(y:aI) (e:Tx),y.1≠x.1→(Yu (p1++[x]++r1) (p2++[d]++r2) y e↔Yu (p1++r1) (p2++r2) y e):=fun y e hy=>by
  rw[Q2 h12];constructor
  ·rintro(q|q)
   ·exact absurd (congrArg (·.1) q.1) hy
   ·exact q
  ·exact .inr
 have hps:∀y∈p1++r1,y.2.1≠x.1:=fun y hy e=>by
  rcases Yt hu hy (ho.chain y hy) with q|⟨z,hz,q⟩
  ·exact hne (e.symm.trans q)
  ·exact hnew z hz (q.trans e)
 have hxm:x∈p1++[x]++r1:=by simp
 have hmem:∀y∈p1++[x]++r1,y=x∨y∈p1++r1:=fun y hy=>by
  simp only[List.mem_append,Xh] at hy⊢;rcases hy with (q|q)|q
  ·exact .inr (.inl q)
  ·exact .inl q
  ·exact .inr (.inr q)
 have aeK:∀{id:Tx},id≠x.1→bZ (p1++[x]++r1) id=bZ (p1++r1) id∧vG (p1++[x]++r1) (p2++[d]++r2) id=vG (p1++r1) (p2++r2) id :=
  fun {id} hid=>Yv hu Nw hlen hlen' ig hps (.inl hnew) hid
 have hdx:Ow (p1++[x]++r1) (p2++[d]++r2) x.1=d:=F2 Nw ((Q2 h12).2 (.inl ⟨rfl,rfl⟩));have key:(bZ (p1++[x]++r1) x.1).2=0∧(vG (p1++[x]++r1) (p2++[d]++r2) x.1).2=0:=by
  by_cases hp:x.2.1=[]
  ·have hc:bZ (p1++[x]++r1) x.1=([x],0):=by
    unfold bZ;rw[sJ Nw hxm,bG hp];rfl
   rw[bG hp] at hap;unfold vG;rw[hc,bG rfl];refine⟨rfl,?_⟩;show(TG [Ow (p1++[x]++r1) (p2++[d]++r2) x.1] []).2=0
   rw[hdx];unfold TG;rw[bG hap];rfl
  ·rcases hpar with q|⟨c0,c1⟩
   ·exact absurd q hp
   rw[bH hp] at hap;obtain⟨k1,k2⟩:=aeK hpx;obtain⟨y,hy,hyp⟩:∃y∈p1++r1,y.1=x.2.1:=by
    apply YS;intro q;unfold bZ at c0;rw[BQ (fun y hy e=>q ⟨y,hy,e⟩)] at c0;cases c0
   have ht:(vG (p1++r1) (p2++r2) x.2.1).2=0:=by
    obtain⟨i,hi⟩:=cm.1 hy;have:=bw hi;rw[←hyp];exact(ho.each i y (p2++r2)[i] hi (ru (by omega))).2.2.2.2.2
   obtain⟨t1,t2⟩:=abq ht;obtain⟨c,e1,e2⟩:=Ys Nw 16 x.2.1 [] (by have:=k1;unfold bZ at this c0;rw[this];exact c0);have e1':(bZ (p1++r1) x.2.1).1=c:=by rw[←k1];exact e1
   rw[e1'] at c1 t2;have hc:bZ (p1++[x]++r1) x.1=(x::c,0):=by
    unfold bZ;rw[sJ Nw hxm,bH hp,e2 15 _ (by omega)];rfl
   unfold vG;rw[hc,bG rfl];refine⟨rfl,?_⟩;rw[k2.symm] at t2 hap ht;rw[show(x::c,(0:Int)).1=x::c from rfl,List.reverse_cons,List.map_append,List.map_singleton,hdx];have hmap:(c.reverse.map fun z=>Ow (p1++[x]++r1) (p2++[d]++r2) z.1)=(c.reverse.map fun z=>Ow (p1++r1) (p2++r2) z.1):=by
    apply YX;intro z hz;rw[List.mem_reverse] at hz;have Xz:z∈p1++r1:=(Ia (ls:=p1++r1) (id:=x.2.1)).1 z (by rw[e1'];exact hz);obtain⟨e,he⟩:=K7 hlen Xz;rw[F2 hu he,F2 Nw ((ig z e (hnew z Xz)).2 he)]
   rw[hmap,Yp _ d [] (vG (p1++[x]++r1) (p2++[d]++r2) x.2.1).1 (Prod.ext (by rw[t2]) (by rw[←t2];exact ht)),bG hap]
 refine⟨hlen',fun y hy=>?_,fun i y e hi he=>?_⟩
 ·rcases hmem y hy with rfl|hy'
  ·exact key.1
  ·rw[(aeK (hnew y hy')).1];exact ho.chain y hy'
 ·have ha:Yu (p1++[x]++r1) (p2++[d]++r2) y e:=⟨i,hi,he⟩;rcases(Q2 h12).1 ha with ⟨rfl,rfl⟩|⟨j,g1,g2⟩
  ·exact⟨hd.1,hd.2.1,hd.2.2.1,hd.2.2.2.1,hd.2.2.2.2,key.2⟩
  ·obtain⟨a1,a2,a3,a4,a5,a6⟩:=ho.each j y e g1 g2;exact⟨a1,a2,a3,a4,a5,by rw[(aeK (hnew y (yc g1))).2];exact a6⟩
end Go.Ge
