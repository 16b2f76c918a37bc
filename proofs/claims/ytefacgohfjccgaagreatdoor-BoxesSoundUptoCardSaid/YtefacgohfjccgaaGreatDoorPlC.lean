/- Plain laws of what the functions compute: part 3. -/
import Derived.Test.YtefacgohfjccgaaGreatDoorPlB
import Derived.Test.YtefacgohfjccgaaGreatDoorGeI
set_option linter.unusedSectionVars false
set_option linter.unusedVariables false
set_option linter.unusedSimpArgs false
noncomputable section
namespace Go.Ge
variable [Lp]
def Yf:List UInt8:=[115,104,97,50,53,54,58]
def zN(s:List UInt8):List UInt8:=Yf++tZ (bt (sha s))
theorem Kp(s:List UInt8):(zN s).length=71:=by
 unfold zN;rw[iO,vr];simp[bt,ri,Yf]
theorem Rf{α:Type}(l:List α)(n:Nat)(h:l.length=n):sub l 0 (minus n 0)=l:=by
 unfold sub minus;rw[show((0:Int).toNat)=0 from rfl,FO,GG (by omega)]
theorem aiH(s:List UInt8)(hs:s.length≤1048576):yN (s,())=some (zN s,()):=by
 unfold yN;dsimp only;rw[Ya s hs,aa,bq (by decide) (by decide) (by decide),ag];dsimp only;rw[show sub (sha s) 0 (minus 32 0)=sha s from Rf _ 32 (ri s),ZN _ (by simp[bt,ri]),aa];dsimp only;rw[dO (by simp only[plus,len,vr,bt,Mp,ri,ep,ig];omega),ag];rfl
theorem Rg(s:List UInt8)(hs:s.length≤1048576):xK (s,())=some (zN s,()):=by
 unfold xK;dsimp only;rw[X9 s hs,aa,bq (by decide) (by decide) (by decide),ag];dsimp only;rw[show sub (sha s) 0 (minus 32 0)=sha s from Rf _ 32 (ri s),Yc _ (by simp[bt,ri]),aa];dsimp only;rw[dO (by simp only[plus,len,vr,bt,Mp,ri,ep,ig];omega),ag];rfl
def agL(t:List UInt8):Int:=if t.length=71∧t.take 7=Yf∧(oG (t.drop 7)).isSome=true then 0 else 2
theorem NS(l:List UInt8)(k:Nat):sub l 0 (minus (k:Int) 0)=l.take k:=by
 unfold sub minus;rw[show((0:Int).toNat)=0 from rfl,FO,Int.sub_zero,u6]
theorem S5(t:List UInt8)(ht:t.length≤1048576):uC (t,())=some (agL t,()):=by
 unfold uC agL;dsimp only;by_cases h71:t.length=71
 ·rw[aP (by simp only[len];omega),aJ,aF,ag,bq (by decide) (by decide) (by simp only[len];omega),ag,aa,
   show sub t 0 (minus 7 0)=t.take 7 from NS t 7,show([115,104,97,50,53,54,58]:List UInt8)=Yf from rfl]
  by_cases h:t.take 7=Yf
  ·rw[h,xF,aJ,af,bq (by decide) (by simp only[len];omega) (EH _),ag,
    show sub t 7 (minus (len t) 7)=t.drop 7 from VB t 7 (by omega),HL _ (by rw[qV];omega),aa]
   cases hu:oG (t.drop 7) with
   | none =>
     rw[br (by simp)];show aj (nt false) (some (2,())) _=_
     rw[aF,ag]
   | some l =>
     show aj (nt true) _ _=_
     rw[aJ,af,bu ⟨h71,rfl,rfl⟩]
  ·rw[show cc (t.take 7) Yf=false from dJ h,aF,ag,br (fun e=>h e.2.1)]
 ·rw[aM (by simp only[len];omega),aF,aJ,af,aa,ag,br (fun e=>h71 e.1)]
theorem abh(s:List UInt8):(zN s).take 7=Yf:=Za rfl
theorem abj(s:List UInt8):(zN s).drop 7=tZ (bt (sha s)):=Y9 rfl
theorem Yg(s:List UInt8):agL (zN s)=0:=by
 have h3:(oG ((zN s).drop 7)).isSome=true:=by
  rw[abj,Re];rfl
 exact bu ⟨Kp s,abh s,h3⟩
end Go.Ge
namespace Go.Ge
variable [Lp]
def amv(n k:Nat):UInt8:=UInt8.ofNat (48+n / 8 ^ k % 8)
def Yh(n:Nat):Nat→List UInt8
 | 0=>[]
 | k+1=>amv n k::Yh n k
end Go.Ge
namespace Go.Ge
variable [Lp]
set_option maxRecDepth 100000
def cA(p:UInt8→Bool)(s:List UInt8):List UInt8:=(s.reverse.dropWhile p).reverse
theorem xR{p:UInt8→Bool}(s:List UInt8){x:UInt8}(h:p x=true):cA p (s++[x])=cA p s:=by
 simp[cA,Mk,h]
theorem zO{p:UInt8→Bool}(s:List UInt8){x:UInt8}(h:p x=false):cA p (s++[x])=s++[x]:=by
 simp[cA,Mk,h]
theorem Rh{p:UInt8→Bool}:∀(z s:List UInt8),(∀x∈z,p x=true)→cA p (s++z)=cA p s:=by
 intro z;induction z with
 | nil=>intro s _;rw[Am]
 | cons x r ih =>
   intro s h;rw[show s++x::r=(s++[x])++r by simp,ih (s++[x]) (fun y hy=>h y (qU _ hy)),xR s (h x (nX ..))]
theorem aeG{p:UInt8→Bool}{s:List UInt8}(h:∀x,s.getLast?=some x→p x=false):cA p s=s:=by
 rcases Y2 s with rfl|⟨r,x,rfl⟩
 ·rfl
 ·have:=h x (by simp);rw[acF];exact zO r this
theorem VC(r:List UInt8)(x:UInt8)(hr:r.length≤1048576):ef .i64 (len (r++[x])) 1=(r.length:Int)∧idx (r++[x]) (r.length:Int)=some x:=by
 constructor
 ·have:len (r++[x])=((r.length+1:Nat):Int):=by simp[len]
  rw[this,eT (by omega) (by omega)];omega
 ·rw[yK];simp
theorem PW(c:Int):∀(n:Nat) (s:List UInt8),s.length≤n→s.length≤1048576→∀q:List UInt8,Loop (fL (q,(c,()))) ((s,()),())=some ((cA (fun x=>bI (u8 x) c) s,()),()):=by
 intro n;induction n with
 | zero =>
   intro s h _ q;obtain rfl:s=[]:=List.length_eq_zero_iff.1 (by omega);rw[aX];rfl
 | succ n ih =>
   intro s h hb q;rcases Y2 s with rfl|⟨r,x,rfl⟩
   ·rw[aX];rfl
   ·rw[acF] at h hb⊢;rw[iO] at h hb;simp only[ep,ig] at h hb;obtain⟨e1,e2⟩:=VC r x (by omega);rw[aX];have e0:fL (q,(c,())) ((r++[x],()),())=if bI (u8 x) c=true then some (.inl ((r,()),())) else some (.inr ((r++[x],()),())):=by
     unfold fL;dsimp only;rw[aT (by simp only[len,iO,ep,ig];omega),ag,e1,e2,aa,aa];cases hx:bI (u8 x) c with
     | true =>
       rw[ag,bq (by omega) (by omega) (by simp only[len,iO];omega),ag,dh,show sub (r++[x]) 0 (minus (r.length:Int) 0)=r from by rw[NS];simp,bu rfl]
     | false=>rw[af,dR,br (by simp)]
    rw[e0];cases hx:bI (u8 x) c with
    | true =>
      rw[bu rfl,xR r (p:=fun x=>bI (u8 x) c) hx];exact ih r (by omega) (by omega) q
    | false =>
      rw[br (by simp),zO r (p:=fun x=>bI (u8 x) c) hx];rfl
theorem yR(s:List UInt8)(c:Int)(hs:s.length≤1048576):fq (s,(c,()))=some (cA (fun x=>bI (u8 x) c) s,()):=by
 unfold fq;rw[PW c s.length s (cU _) hs s,aa]
def cr(x:UInt8):Bool:=bI (u8 x) 0
theorem AP(x:UInt8):cr x=true↔x=0:=by
 unfold cr bI;rw[Ml];constructor
 ·intro h;exact Yd (a:=x) (b:=0) h
 ·rintro rfl;rfl
theorem PX(s:List UInt8)(hs:s.length≤1048576):fY (s,([0],()))=some (cA cr s,()):=by
 unfold fY;dsimp only;by_cases h:s=[]
 ·subst h;rfl
 ·rw[show cc s []=false from dJ h,aF,ag,show cc [0] []=false from rfl,af,show bI (len ([0]:List UInt8)) 1=true from rfl,ag,show idx ([0]:List UInt8) 0=some 0 from rfl,aa,aa,show bB (u8 0) 128=true from rfl,ag,aa,
   yR s _ hs,aa]
  rfl
def vt:List Bool:=((List.replicate 256 false).set 0 true).set 32 true
def yx(x:UInt8):Bool:=vt.getD x.toNat false
theorem S6:vt.length=256:=by simp only[vt,List.length_set,TS]
theorem aiI:∀n:Fin 256,vt.getD n.val false=(decide (n.val=0)||decide (n.val=32)):=by decide +kernel
theorem VD(x:UInt8):yx x=true↔x=0∨x=32:=by
 unfold yx;rw[aiI ⟨x.toNat,x.toNat_lt⟩];simp only[zv,Ml];constructor
 ·rintro(h|h)
  ·exact .inl (UInt8.toNat_inj.1 h)
  ·exact .inr (UInt8.toNat_inj.1 h)
 ·rintro(rfl|rfl)
  ·exact .inl rfl
  ·exact .inr rfl
theorem S7(x:UInt8):cD ((u8 x,()),(vt,()))=some ((yx x,()),(vt,())):=by
 unfold cD;have hx:=x.toNat_lt;have e:u8 x=(x.toNat:Int):=rfl;dsimp only;rw[e,bE (by omega) (by omega),ag,fK vt false (i:=x.toNat) (by show _<vt.length;rw[S6];omega),aa];rfl
theorem VE:dG ([0,32],())=some (vt,(true,())):=by
 unfold dG;have key:Loop (bZ ([0,32],())) ((false,(0,())),(List.replicate 256 false,()))=some (0,((false,(2,())),(vt,()))):=by
  rw[aX,show bZ ([0,32],()) ((false,(0,())),(List.replicate 256 false,()))=some (.inl ((false,(1,())),((List.replicate 256 false).set 0 true,()))) from rfl];show Loop (bZ ([0,32],())) ((false,(1,())),((List.replicate 256 false).set 0 true,()))=_
  rw[aX,show bZ ([0,32],()) ((false,(1,())),((List.replicate 256 false).set 0 true,()))=some (.inl ((false,(2,())),(vt,()))) from rfl];show Loop (bZ ([0,32],())) ((false,(2,())),(vt,()))=_
  rw[aX];rfl
 exact(congrArg (ah · _) key).trans rfl
theorem VF:∀(n:Nat) (s:List UInt8),s.length≤n→s.length≤1048576→Loop cj ((s,()),(vt,()))=some ((cA yx s,()),(vt,())):=by
 intro n;induction n with
 | zero =>
   intro s h _;obtain rfl:s=[]:=List.length_eq_zero_iff.1 (by omega);rw[aX];rfl
 | succ n ih =>
   intro s h hb;rcases Y2 s with rfl|⟨r,x,rfl⟩
   ·rw[aX];rfl
   ·rw[acF] at h hb⊢;rw[iO] at h hb;simp only[ep,ig] at h hb;obtain⟨e1,e2⟩:=VC r x (by omega);rw[aX];have e0:cj ((r++[x],()),(vt,()))=if yx x=true then some (.inl ((r,()),(vt,()))) else some (.inr ((r++[x],()),(vt,()))):=by
     unfold cj;dsimp only;rw[aT (by simp only[len,iO,ep,ig];omega),ag,e1,e2,aa,S7,aa];dsimp only;cases hx:yx x with
     | true =>
       rw[aJ,af,bq (by omega) (by omega) (by simp only[len,iO];omega),ag,dh,show sub (r++[x]) 0 (minus (r.length:Int) 0)=r from by rw[NS];simp,bu rfl]
     | false=>rw[aF,ag,dR,br (by simp)]
    rw[e0];cases hx:yx x with
    | true =>
      rw[bu rfl,xR r hx];exact ih r (by omega) (by omega)
    | false =>
      rw[br (by simp),zO r hx];rfl
theorem HM(s:List UInt8)(hs:s.length≤1048576):fY (s,([0,32],()))=some (cA yx s,()):=by
 unfold fY;dsimp only;by_cases h:s=[]
 ·subst h;rfl
 ·rw[show cc s []=false from dJ h,aF,ag,show cc [0,32] []=false from rfl,af,show bI (len ([0,32]:List UInt8)) 1=false from rfl,af,aa,af,VE,aa];dsimp only;rw[ag];unfold dP;dsimp only;rw[VF s.length s (cU _) hs];rfl
theorem PY(c:Int):∀(n:Nat) (s:List UInt8),s.length≤n→∀q:List UInt8,Loop (gh (q,(c,()))) ((s,()),())=some ((s.dropWhile (fun x=>bI (u8 x) c),()),()):=by
 intro n;induction n with
 | zero =>
   intro s h q;obtain rfl:s=[]:=List.length_eq_zero_iff.1 (by omega);rw[aX];rfl
 | succ n ih =>
   intro s h q;cases s with
   | nil=>rw[aX];rfl
   | cons x r =>
     simp only[ep] at h;rw[aX];have e0:gh (q,(c,())) ((x::r,()),())=if bI (u8 x) c=true then some (.inl ((r,()),())) else some (.inr ((x::r,()),())):=by
      unfold gh;dsimp only;rw[aT (by simp only[len,ep];omega),ag,show idx (x::r) 0=some x from rfl,aa,aa];cases hx:bI (u8 x) c with
      | true =>
        rw[ag,bq (by decide) (by simp only[len,ep];omega) (EH _),ag,dh,show sub (x::r) 1 (minus (len (x::r)) 1)=r from VB (x::r) 1 (by simp),bu rfl]
      | false=>rw[af,dR,br (by simp)]
     rw[e0,Mk];cases hx:bI (u8 x) c with
     | true =>
       rw[bu rfl,bu rfl];exact ih r (by omega) q
     | false =>
       rw[br (by simp),br (by simp)];rfl
theorem Jt(s:List UInt8)(c:Int):iC (s,(c,()))=some (s.dropWhile (fun x=>bI (u8 x) c),()):=by
 unfold iC;rw[PY c s.length s (cU _) s,aa]
theorem Ju{p:UInt8→Bool}{l:List UInt8}{x:UInt8}(h:x∈l.takeWhile p):p x=true:=List.all_eq_true.1 List.all_takeWhile x h
theorem VG(s:List UInt8)(hs:s.length≤1048576):jd (s,([0],()))=some ((cA cr s).dropWhile cr,()):=by
 unfold jd;dsimp only;by_cases h:s=[]
 ·subst h;rfl
 ·rw[show cc s []=false from dJ h,aF,ag,show cc [0] []=false from rfl,af,show bI (len ([0]:List UInt8)) 1=true from rfl,ag,show idx ([0]:List UInt8) 0=some 0 from rfl,aa,aa,show bB (u8 0) 128=true from rfl,ag,aa,
   yR s _ hs,aa,aa,Jt,aa]
  rfl
theorem xS(s:List UInt8):(cA cr s).dropWhile cr=[]↔∀x∈s,x=0:=by
 constructor
 ·intro h;have h1:∀x∈cA cr s,cr x=true:=by
   intro x hx;have:=KT (p:=cr) (l:=cA cr s);rw[h,Am] at this;rw[←this] at hx;exact Ju hx
  have h2:cA cr s=[]:=by
   rcases Y2 (cA cr s) with h2|⟨r,x,h2⟩
   ·exact h2
   ·exfalso;have hx:=h1 x (by rw[h2];simp);unfold cA at h2;have h3:(s.reverse.dropWhile cr)=x::r.reverse:=by
     have:=congrArg List.reverse h2;simpa using this
    have:=List.head?_dropWhile_not cr s.reverse;rw[h3] at this;simp[hx] at this
  intro x hx;have h3:s.reverse.dropWhile cr=[]:=by
   have:=congrArg List.reverse h2;simpa [cA] using this
  have:=KT (p:=cr) (l:=s.reverse);rw[h3,Am] at this;have hm:x∈s.reverse:=List.mem_reverse.2 hx;rw[←this] at hm;exact(AP x).1 (Ju hm)
 ·intro h;have:cA cr s=[]:=by
   have:=Rh (p:=cr) s [] (fun x hx=>(AP x).2 (h x hx));rw[zu] at this;exact this
  rw[this];rfl
theorem NT(b:List UInt8)(hb:b.length≤1048576):zK (b,())=some (decide (b.length=512∧∀x∈b,x=0),()):=by
 unfold zK;dsimp only;by_cases h:b.length=512
 ·rw[aP (by simp only[len];omega),ag,VG b hb,aa,aa]
  congr 2
  unfold cc;dsimp only;by_cases h2:∀x∈b,x=0
  ·rw[fo ((xS b).2 h2),fo ⟨h,h2⟩]
  ·rw[dJ (fun e=>h2 ((xS b).1 e)),dJ (fun e=>h2 e.2)]
 ·rw[aM (by simp only[len];omega),af,aa,dJ (fun e=>h e.1)]
end Go.Ge
namespace Go.Ge
variable [Lp]
theorem ahL:∀d:Fin 8,qW .i64 (ef .u8 ((48+d.val:Nat):Int) 48)=(d.val:Int):=by decide +kernel
theorem amw{v d:Nat}(hd:d<8)(hv:8*v+d<9223372036854775808):zx .i64 (nu .i64 (v:Int) 3) (qW .i64 (ef .u8 ((48+d:Nat):Int) 48))=((8*v+d:Nat):Int):=by
 rw[ahL ⟨d,hd⟩];have e1:nu .i64 (v:Int) 3=((8*v:Nat):Int):=by
  unfold nu;rw[show min (Int.toNat 3) IntKind.i64.bits=3 from rfl,show(v:Int)*2 ^ 3=((8*v:Nat):Int) by omega];exact El (by omega) (by omega)
 rw[e1];unfold zx;have e:(BitVec.ofInt IntKind.i64.bits ((8*v:Nat):Int) ||| BitVec.ofInt IntKind.i64.bits (d:Int)).toNat=8*v+d:=by
  rw[BitVec.toNat_or];have h1:(BitVec.ofInt IntKind.i64.bits ((8*v:Nat):Int)).toNat=2 ^ 3*v:=by
   rw[acL,show(IntKind.i64.bits)=64 from rfl];omega
  have h2:(BitVec.ofInt IntKind.i64.bits (d:Int)).toNat=d:=by
   rw[acL,show(IntKind.i64.bits)=64 from rfl];omega
  rw[h1,h2,←Nat.two_pow_add_eq_or_of_lt hd]
 rw[e];exact El (by omega) (by omega)
def AQ(s:List UInt8):Prop:=∀x∈s,x≠0
instance (s:List UInt8):Decidable (AQ s):=inferInstanceAs (Decidable (∀x∈s,x≠0))
theorem Ri:∀s:List UInt8,decide (Lib.indexByte s 0<0)=decide (AQ s):=by
 intro s;induction s with
 | nil=>rfl
 | cons b r ih =>
   unfold Lib.indexByte;by_cases hb:b=0
   ·subst hb;rw[bu (by rfl),dJ (by decide),dJ (fun h=>h 0 (nX ..) rfl)]
   ·rw[br (by simpa using hb)];by_cases hr:AQ r
    ·rw[fo hr] at ih;have h1:Lib.indexByte r 0<0:=ic ih;have h2:=(Ln 0 r).1;have h3:Lib.indexByte r 0=-1:=by omega
     rw[h3,bu (by rfl),fo (by decide),fo];intro x hx;rcases List.mem_cons.1 hx with rfl|hx
     ·exact hb
     ·exact hr x hx
    ·rw[dJ hr] at ih;have h1:¬Lib.indexByte r 0<0:=TP ih;rw[br (by simp only[Zk];omega),dJ (by omega),dJ];intro h;exact hr fun x hx=>h x (qU _ hx)
theorem HN(s:List UInt8):p9 (s,(0,()))=some (Lib.indexByte s 0,()):=rfl
theorem HO(s:List UInt8)(hs:s.length≤1048576):mV (s,())=some (cA cr s,(decide (AQ (cA cr s)),())):=by
 unfold mV;dsimp only;rw[PX s hs,aa];dsimp only;rw[HN,aa];unfold bB;dsimp only;rw[Ri]
abbrev Hd:=List UInt8×Int×Int×Int×Int×Int×Int×List UInt8×Unit
def WC(s:List UInt8)(most:Int):Prop:=s≠[]∧(s.length:Int)≤most∧AQ s
instance (s:List UInt8) (most:Int):Decidable (WC s most):=inferInstanceAs (Decidable (_∧_∧_))
def S8(n b:Int):Prop:=0≤n∧n<b
instance (n b:Int):Decidable (S8 n b):=inferInstanceAs (Decidable (_∧_))
def kindOk(h:Hd):Prop:=(h.2.1=1∧h.2.2.2.2.2.2.2.1=[])∨(h.2.1=2∧h.2.2.2.2.2.2.2.1=[]∧h.2.2.2.2.2.1=0)∨(h.2.1=3∧WC h.2.2.2.2.2.2.2.1 100∧h.2.2.2.2.2.1=0)
instance (h:Hd):Decidable (kindOk h):=inferInstanceAs (Decidable (_∨_∨_))
def Lx(h:Hd)(most:Int):Prop:=S8 h.2.2.1 2097152∧S8 h.2.2.2.1 2097152∧S8 h.2.2.2.2.1 2097152∧S8 h.2.2.2.2.2.1 8589934592∧S8 h.2.2.2.2.2.2.1 8589934592∧WC h.1 most∧kindOk h
instance (h:Hd) (most:Int):Decidable (Lx h most):=inferInstanceAs (Decidable (_∧_∧_∧_∧_∧_∧_))
theorem Gg(n b:Int):oB (n,(b,()))=some (decide (S8 n b),()):=by
 unfold oB;dsimp only;by_cases h:0≤n
 ·rw[cE h,ag];unfold bB S8
  congr 2
  simp[h]
 ·rw[fU (by omega),af,dJ (fun e=>h e.1)]
theorem Rj(s:List UInt8)(m:Int):sA (s,(m,()))=some (decide (WC s m),()):=by
 unfold sA;dsimp only;by_cases h:s=[]
 ·subst h;rw[show cc [] []=true from rfl,aJ,af,af,aa,dJ (fun e=>e.1 rfl)]
 ·rw[show cc s []=false from dJ h,aF,ag];by_cases h2:(s.length:Int)≤m
  ·rw[cE (by simp only[len];exact h2),ag,HN,aa,aa];unfold bB;dsimp only;rw[Ri]
   congr 2
   unfold WC;simp[h,h2]
  ·rw[fU (by simp only[len];omega),af,aa,dJ (fun e=>h2 e.2.1)]
theorem VH(h:Hd)(m:Int):vn (h,(m,()))=some (decide (Lx h m),()):=by
 unfold vn;dsimp only;by_cases h1:S8 h.2.2.1 2097152
 case neg=>rw[Gg,aa,dJ h1,af,aa,af,aa,af,aa,af,aa,aF,aJ,af,aa,ag,dJ (fun e=>h1 e.1)]
 rw[Gg,aa,fo h1,ag,Gg,aa,aa];by_cases h2:S8 h.2.2.2.1 2097152
 case neg=>rw[dJ h2,af,aa,af,aa,af,aa,aF,aJ,af,aa,ag,dJ (fun e=>h2 e.2.1)]
 rw[fo h2,ag,Gg,aa,aa];by_cases h3:S8 h.2.2.2.2.1 2097152
 case neg=>rw[dJ h3,af,aa,af,aa,aF,aJ,af,aa,ag,dJ (fun e=>h3 e.2.2.1)]
 rw[fo h3,ag,Gg,aa,aa];by_cases h4:S8 h.2.2.2.2.2.1 8589934592
 case neg=>rw[dJ h4,af,aa,aF,aJ,af,aa,ag,dJ (fun e=>h4 e.2.2.2.1)]
 rw[fo h4,ag,Gg,aa,aa];by_cases h5:S8 h.2.2.2.2.2.2.1 8589934592
 case neg=>rw[dJ h5,aF,aJ,af,aa,ag,dJ (fun e=>h5 e.2.2.2.2.1)]
 rw[fo h5,aJ,aF,ag,Rj,aa,aa];by_cases h6:WC h.1 m
 case neg=>rw[dJ h6,aF,ag,dJ (fun e=>h6 e.2.2.2.2.2.1)]
 rw[fo h6,aJ,af];have hk:decide (Lx h m)=decide (kindOk h):=decide_eq_decide.2 ⟨fun e=>e.2.2.2.2.2.2,fun e=>⟨h1,h2,h3,h4,h5,h6,e⟩⟩;rw[hk];by_cases k1:h.2.1=1
 ·rw[k1,qi,ag];unfold cc;rw[show decide (h.2.2.2.2.2.2.2.1=[])=decide (kindOk h) from decide_eq_decide.2 (by unfold kindOk;simp[k1])]
 ·rw[aM k1,af];by_cases k2:h.2.1=2
  ·rw[k2,qi,ag];unfold cc bI;by_cases kl:h.2.2.2.2.2.2.2.1=[]
   ·rw[fo kl,ag,show decide (h.2.2.2.2.2.1=0)=decide (kindOk h) from decide_eq_decide.2 (by unfold kindOk;simp[k2,kl])]
   ·rw[dJ kl,af,show decide (kindOk h)=false from dJ (by unfold kindOk;simp[k2,kl])]
  ·rw[aM k2,af];by_cases k3:h.2.1=3
   ·rw[k3,qi,ag,Rj,aa];dsimp only;unfold bI;by_cases kl:WC h.2.2.2.2.2.2.2.1 100
    ·rw[fo kl,ag,show decide (h.2.2.2.2.2.1=0)=decide (kindOk h) from decide_eq_decide.2 (by unfold kindOk;simp[k3,kl])]
    ·rw[dJ kl,af,show decide (kindOk h)=false from dJ (by unfold kindOk;simp[k3,kl])]
   ·rw[aM k3,af,show decide (kindOk h)=false from dJ (by unfold kindOk;simp[k1,k2,k3])]
end Go.Ge
namespace Go.Ge
variable [Lp]
def cK:List UInt8→List (List UInt8)
 | []=>[[]]
 | b::r=>if b=47 then []::cK r else match cK r with
   | h::t=>(b::h)::t
   | []=>[[b]]
theorem rM(s:List UInt8):cK s≠[]:=by
 cases s with
 | nil=>simp[cK]
 | cons b r =>
   unfold cK;split
   ·simp
   ·split<;>simp
theorem lR{b:UInt8}(h:b≠47){r x:List UInt8}{t:List (List UInt8)}(e:cK r=x::t):cK (b::r)=(b::x)::t:=by
 rw[cK,br h,e]
def parts(p:List UInt8):List (List UInt8):=if p=[] then [] else cK p
theorem aeH(c:UInt8):bI (u8 c) 47=decide (c=47):=E6 (n:=47)
theorem aks(c:UInt8):bI (u8 c) 0=decide (c=0):=E6 (n:=0)
theorem iD(p:List UInt8)(hp:p.length≤1048576):eo (p,())=some (parts p,()):=by
 unfold eo parts;dsimp only;by_cases h:p=[]
 ·rw[gH h,ag,bu h]
 ·rw[cJ h,af,br h];have key:=xH (f:=lq (p,())) p (fun(s:List UInt8×List (List UInt8)) i=>(((),(s.1,((i:Int),()))),(s.2,())))
   (fun i s x=>some (.inl (if x=47 then([],s.2++[s.1]) else(s.1++[x],s.2)))) (fun i s=>(((),(s.1,((i:Int),()))),(s.2,()))) (fun i s=>s.1.length≤i∧s.2.length≤i)
   (fun s i x hx hi hI=>by
    unfold lq;dsimp only;rw[au hi,ag,aB hx,aa,aeH];by_cases hq:x=47
    ·rw[fo hq,ag,cG (by simp only[ep,ig];omega),ag,aa,aY (by omega)];simp only[bu hq];rfl
    ·rw[dJ hq,af,aY (by omega),tW (by omega) (by omega),ag,sub_one hx,cG (by simp only[ep,ig];omega),ag,aa];simp only[br hq];rfl)
   (fun s i x s' hx hI hs=>by
    obtain rfl:=Zj (aN hs);by_cases hq:x=47
    ·simp only[bu hq,iO,ep,ig];omega
    ·simp only[br hq,iO,ep,ig];omega)
   (fun s hI=>by
    unfold lq;dsimp only;rw[aE,af];rfl)
   (fun s i x _ _ h=>by cases h) ([],[]) ⟨cU _,cU _⟩
  have run:∀(r:List UInt8) (i:Nat) (a:List UInt8) (o:List (List UInt8)),∃a' o' j,yq (fun i (s:List UInt8×List (List UInt8)) x=>some (.inl (if x=47 then([],s.2++[s.1]) else(s.1++[x],s.2)))) (fun i (s:List UInt8×List (List UInt8))=>(((),(s.1,((i:Int),()))),(s.2,()))) r i (a,o)=some (((),(a',(j,()))),(o',())) ∧
    o'++[a']=o++(match cK r with|h::t=>(a++h)::t|[]=>[a])∧o'.length≤o.length+r.length:=by
   intro r;induction r with
   | nil=>intro i a o;exact⟨a,o,_,rfl,by simp[cK],by simp⟩
   | cons x r ih =>
     intro i a o;by_cases hq:x=47
     ·obtain⟨a',o',j,h1,h2,h3⟩:=ih (i+1) [] (o++[a]);refine⟨a',o',j,?_,?_,?_⟩
      ·unfold yq;simp only[bu hq];exact h1
      ·rw[h2,cK,bu hq];cases hs:cK r with
       | nil=>exact absurd hs (rM r)
       | cons h t=>simp
      ·simp only[iO,ep,ig] at h3⊢;omega
     ·obtain⟨a',o',j,h1,h2,h3⟩:=ih (i+1) (a++[x]) o;refine⟨a',o',j,?_,?_,?_⟩
      ·unfold yq;simp only[br hq];exact h1
      ·rw[h2];cases hs:cK r with
       | nil=>exact absurd hs (rM r)
       | cons h t=>rw[lR hq hs];simp
      ·simp only[ep] at h3⊢;omega
  obtain⟨a',o',j,h1,h2,h3⟩:=run p 0 [] [];have key':Loop (lq (p,())) (((),(([]:List UInt8),((0:Int),()))),(([]:List (List UInt8)),()))=some (((),(a',(j,()))),(o',())):=key.trans h1;rw[key',aa];dsimp only;simp only[ig] at h3;rw[cG (by simp only[ep,ig];omega),ag,F9,h2];cases hs:cK p with
  | nil=>exact absurd hs (rM p)
  | cons h t=>simp
def aO:List (List UInt8)→List UInt8
 | []=>[]
 | [x]=>x
 | x::y::r=>x++47::aO (y::r)
theorem wF(s:List UInt8):aO (cK s)=s:=by
 induction s with
 | nil=>rfl
 | cons b r ih =>
   by_cases h:b=47
   ·subst h;rw[cK,bu rfl];cases hs:cK r with
    | nil=>exact absurd hs (rM r)
    | cons x t=>rw[aO,←hs,ih];rfl
   ·cases hs:cK r with
    | nil=>exact absurd hs (rM r)
    | cons x t =>
      rw[lR h hs];rw[hs] at ih;cases t with
      | nil=>rw[aO] at ih⊢;rw[ih]
      | cons y t=>rw[aO] at ih⊢;rw[Mm,ih]
theorem gJ(p:List UInt8):aO (parts p)=p:=by
 unfold parts;by_cases h:p=[]
 ·rw[bu h,h];rfl
 ·rw[br h,wF]
theorem Gi(x:List UInt8)(hx:47∉x)(r:List UInt8):cK (x++47::r)=x::cK r:=by
 induction x with
 | nil=>rw[zu,cK,bu rfl]
 | cons b x ih =>
   simp only[IQ,Mu] at hx;exact lR (fun e=>hx.1 e.symm) (ih hx.2)
theorem pI(x:List UInt8)(hx:47∉x):cK x=[x]:=by
 induction x with
 | nil=>rfl
 | cons b x ih =>
   simp only[IQ,Mu] at hx;exact lR (fun e=>hx.1 e.symm) (ih hx.2)
theorem HP(l:List (List UInt8))(hne:l≠[])(h:∀x∈l,47∉x):cK (aO l)=l:=by
 induction l with
 | nil=>exact absurd rfl hne
 | cons x r ih =>
   cases r with
   | nil=>rw[aO];exact pI x (h x (nX ..))
   | cons y r =>
     rw[aO,Gi x (h x (nX ..)),ih (by simp) (fun z hz=>h z (qU _ hz))]
theorem Yi(s:List UInt8):∀x∈cK s,47∉x∧x.length≤s.length:=by
 induction s with
 | nil=>intro x hx;simp[cK] at hx;subst hx;simp
 | cons b r ih =>
   intro x hx;by_cases h:b=47
   ·rw[cK,bu h] at hx;rcases List.mem_cons.1 hx with rfl|hx
    ·simp
    ·obtain⟨h1,h2⟩:=ih x hx;exact⟨h1,by simp only[ep];omega⟩
   ·cases hs:cK r with
    | nil=>exact absurd hs (rM r)
    | cons y t =>
      rw[lR h hs] at hx;rw[hs] at ih;rcases List.mem_cons.1 hx with rfl|hx
      ·obtain⟨h1,h2⟩:=ih y (nX ..);exact⟨by simp only[IQ,Mu];exact⟨fun e=>h e.symm,h1⟩,by simp only[ep];omega⟩
      ·obtain⟨h1,h2⟩:=ih x (qU _ hx);exact⟨h1,by simp only[ep];omega⟩
theorem E8(s:List UInt8):(cK s).length≤s.length+1:=by
 induction s with
 | nil=>simp[cK]
 | cons b r ih =>
   by_cases h:b=47
   ·rw[cK,bu h];simp only[ep];omega
   ·cases hs:cK r with
    | nil=>exact absurd hs (rM r)
    | cons y t=>rw[lR h hs];rw[hs] at ih;simp only[ep] at ih⊢;omega
theorem Jv(p:List UInt8):∀x∈parts p,47∉x∧x.length≤p.length:=by
 unfold parts;by_cases h:p=[]
 ·rw[bu h];intro x hx;cases hx
 ·rw[br h];exact Yi p
theorem lZ(p:List UInt8):(parts p).length≤p.length+1:=by
 unfold parts;by_cases h:p=[]
 ·rw[bu h];simp
 ·rw[br h];exact E8 p
theorem oH(l:List (List UInt8))(h:∀x∈l,47∉x∧x≠[]):parts (aO l)=l:=by
 unfold parts;cases l with
 | nil=>rfl
 | cons x r =>
   have hne:aO (x::r)≠[]:=by
    have:=(h x (nX ..)).2;cases r with
    | nil=>rw[aO];exact this
    | cons y r=>rw[aO];simp
   rw[br hne,HP _ (by simp) (fun z hz=>(h z hz).1)]
end Go.Ge
namespace Go.Ge
variable [Lp]
theorem Dj(l:List (List UInt8))(hl:l.length≤1048576)(hx:(aO l).length≤1048576):pz (l,())=some (aO l,()):=by
 unfold pz;have pre:∀(a b:List (List UInt8)),a≠[]→b≠[]→aO (a++b)=aO a++47::aO b:=by
  intro a;induction a with
  | nil=>intro b h;exact absurd rfl h
  | cons x r ih =>
    intro b _ hb;cases r with
    | nil =>
      cases b with
      | nil=>exact absurd rfl hb
      | cons y b=>rfl
    | cons y r =>
      have:=ih b (by simp) hb;rw[Mm,Mm,aO,aO,←Mm,this];simp
 have mono:∀i,(aO (l.take i)).length≤(aO l).length:=by
  intro i;by_cases ha:l.take i=[]
  ·rw[ha];simp[aO]
  ·by_cases hb:l.drop i=[]
   ·rw[show l.take i=l from by have:=CE i l;rw[hb,Am] at this;exact this];exact cU _
   ·have:=pre _ _ ha hb;rw[CE] at this;rw[this,iO];omega
 have step:∀i x,l[i]?=some x→aO (l.take (i+1))=(if 0<i then aO (l.take i)++[47] else aO (l.take i))++x:=by
  intro i x hx;have e:l.take (i+1)=l.take i++[x]:=by rw[TQ,hx];rfl
  rw[e];cases i with
  | zero=>rfl
  | succ i =>
    rw[bu (by omega),pre _ _ (by have:=aI hx;intro q;have:=congrArg List.length q;rw[cW] at this;simp only[ig] at this;omega) (by simp)];simp[aO]
 have key:=de (f:=mJ (l,())) (r:=((aO l,((l.length:Int),())),())) l.length (fun i=>((aO (l.take i),((i:Int),())),())) (fun i hi=>by
  obtain⟨x,hxx⟩:∃x,l[i]?=some x:=⟨_,kL hi⟩;have hs:=step i x hxx;have hb:=mono (i+1);rw[hs] at hb;unfold mJ;dsimp only;rw[au hi,ag];by_cases h0:0<i
  ·rw[bu h0] at hs hb;rw[iO,iO] at hb;simp only[ep,ig] at hb;rw[aT (by omega),ag,cG (by simp only[ep,ig];omega),ag,aa,aB hxx,aa];dsimp only;rw[cG (by simp only[F9,iO,ep,ig];omega),ag,aY (by omega),hs];rfl
  ·rw[br h0] at hs hb;rw[iO] at hb;rw[aH (by omega),af,aa,aB hxx,aa];dsimp only;rw[cG (by omega),ag,aY (by omega),hs];rfl) (by
  unfold mJ;dsimp only;rw[aE,af,GJ];rfl)
 have key':Loop (mJ (l,())) ((([]:List UInt8),((0:Int),())),())=some ((aO l,((l.length:Int),())),()):=key;rw[key',aa]
def Cz(s:List UInt8):Bool:=decide (s≠[46]∧s≠[46,46]∧1≤s.length∧s.length≤32∧0∉s)
theorem PZ(s:List UInt8)(hs:s.length≤1048576):sB (s,())=some (Cz s&&decide (47∉s),()):=by
 unfold sB;have key:=xH (f:=jV (s,())) s (fun(_:Unit) i=>((false,((i:Int),())),()))
  (fun i _ x=>some (if x=0∨x=47 then .inr (1,((false,((i:Int),())),())) else .inl ())) (fun i _=>(0,((false,((i:Int),())),()))) (fun _ _=>True)
  (fun u i x hx hi _=>by
   unfold jV;dsimp only;rw[au hi,ag,aB hx,aa,aks];by_cases h0:x=0
   ·rw[fo h0,aJ,af,aa,ag,bu (.inl h0)];rfl
   ·rw[dJ h0,aF,ag,aa,aeH,aa];by_cases h1:x=47
    ·rw[fo h1,ag,bu (.inr h1)];rfl
    ·rw[dJ h1,af,br (by simp[h0,h1]),aY (by omega)];rfl)
  (fun _ _ _ _ _ _ _=>trivial)
  (fun u _=>by
   unfold jV;dsimp only;rw[aE,af])
  (fun _ _ _ _ _ h=>by cases h) () trivial
 have run:∀(r:List UInt8) (i:Nat),∃q,yq (fun i (_:Unit) x=>some (if x=0∨x=47 then Sum.inr (1,((false,((i:Int),())),())) else Sum.inl ())) (fun i _=>((0:Nat),((false,((i:Int),())),()))) r i ()=some q ∧
   q.1=(if 0∉r∧47∉r then 0 else 1)∧q.2.1.1=false:=by
  intro r;induction r with
  | nil=>intro i;exact⟨_,rfl,by simp,rfl⟩
  | cons x r ih =>
    intro i;unfold yq;by_cases h:x=0∨x=47
    ·simp only[bu h];refine⟨_,rfl,?_,rfl⟩;rw[br];rcases h with h|h<;>simp[h]
    ·simp only[br h];obtain⟨q,h1,h2,h3⟩:=ih (i+1);refine⟨q,h1,?_,h3⟩;rw[h2];simp only[Mu] at h;simp only[IQ,Mu];have h1':¬(0=x):=fun e=>h.1 e.symm;have h2':¬(47=x):=fun e=>h.2 e.symm;simp[h1',h2']
 obtain⟨q,h1,h2,h3⟩:=run s 0;have key':Loop (jV (s,())) ((false,((0:Int),())),())=some q:=key.trans h1;rw[key',aa];have el:cX 1 (len s)=decide (1≤s.length):=by unfold cX len;apply decide_eq_decide.2;omega
 have eh:cX (len s) 32=decide (s.length≤32):=L9 32 s;rw[el,eh,h2,h3];unfold Cz;by_cases a:0∉s∧47∉s
 ·rw[bu a,cv,ag];by_cases c:1≤s.length
  ·by_cases d:s.length≤32
   ·by_cases e:s=[46]
    ·simp[e,aj,cc,nt]
    ·by_cases f:s=[46,46]
     ·simp[f,aj,cc,nt]
     ·simp[a,c,d,e,f,aj,cc,nt]
   ·simp[d,c,aj]
  ·simp[c,aj]
 ·rw[br a,kN,af]
  congr 2
  by_cases b:0∈s
  ·simp[b]
  ·have:47∈s:=by
    have:=a;simp only[not_and,acR] at this;exact this b
   simp[this]
theorem Rk(p:List UInt8)(hp:p.length≤1048576):xL (p,())=some ((parts p).all Cz&&decide ((parts p).length≤8)&&decide (p.length≤96),()):=by
 unfold xL;dsimp only;rw[iD p hp,aa];have hm:=Jv p;have hn:=lZ p;generalize parts p=l at hm hn;have key:=xH (f:=ql (l,())) l (fun(_:Unit) i=>((false,((i:Int),())),()))
  (fun i _ x=>some (if Cz x=false then .inr (1,((false,((i:Int),())),())) else .inl ())) (fun i _=>(0,((false,((i:Int),())),()))) (fun _ _=>True)
  (fun u i x hx hi _=>by
   unfold ql;dsimp only;have hx':=hm x (gm hx);rw[au hi,ag,aB hx,aa,PZ x (by omega),aa];dsimp only;rw[fo hx'.1,Bool.and_true];cases h:Cz x with
   | true=>rw[aJ,af,br (by simp),aY (by omega)];rfl
   | false=>rw[aF,ag,bu rfl];rfl)
  (fun _ _ _ _ _ _ _=>trivial)
  (fun u _=>by
   unfold ql;dsimp only;rw[aE,af])
  (fun _ _ _ _ _ h=>by cases h) () trivial
 have run:∀(r:List (List UInt8)) (i:Nat),∃q,yq (fun i (_:Unit) x=>some (if Cz x=false then Sum.inr (1,((false,((i:Int),())),())) else Sum.inl ())) (fun i _=>((0:Nat),((false,((i:Int),())),()))) r i ()=some q ∧
   q.1=(if r.all Cz=true then 0 else 1)∧q.2.1.1=false:=by
  intro r;induction r with
  | nil=>intro i;exact⟨_,rfl,rfl,rfl⟩
  | cons x r ih =>
    intro i;unfold yq;cases h:Cz x with
    | false=>exact⟨_,rfl,by simp[h],rfl⟩
    | true =>
      obtain⟨q,h1,h2,h3⟩:=ih (i+1);exact⟨q,h1,by rw[h2];simp[h],h3⟩
 obtain⟨q,h1,h2,h3⟩:=run l 0;have key':Loop (ql (l,())) ((false,((0:Int),())),())=some q:=key.trans h1;rw[key',aa,h2,h3];have e8:cX (len l) 8=decide (l.length≤8):=L9 8 l;have e96:cX (len p) 96=decide (p.length≤96):=L9 96 p;rw[e8,e96];cases h:l.all Cz with
 | true =>
   rw[bu rfl,cv,ag];by_cases a:l.length≤8<;>simp[a,aj]
 | false=>rw[br (by simp),kN,af];simp
def Ck(x:List UInt8):Bool:=decide (x≠[]∧x≠[46])
def names(s:List UInt8):List (List UInt8):=(parts s).filter Ck
def wG(s:List UInt8):Bool:=(names s).all Cz&&decide (s.head?≠some 47)&&decide ((names s).length≤8)&&decide ((aO (names s)).length≤96)
def Gj(s:List UInt8):List UInt8×Int:=if wG s then(aO (names s),0) else([],2)
theorem Et(s:List UInt8):∀x∈names s,47∉x∧x≠[]∧x.length≤s.length:=by
 intro x hx;obtain⟨h1,h2⟩:=List.mem_filter.1 hx;obtain⟨h3,h4⟩:=Jv s x h1;simp only[Ck,nY] at h2;exact⟨h3,h2.1,h4⟩
theorem S9(s:List UInt8):(names s).length≤s.length+1:=gY (aak _ _) (lZ s)
theorem VI(s:List UInt8):parts (aO (names s))=names s:=oH _ fun x hx=>⟨(Et s x hx).1,(Et s x hx).2.1⟩
theorem Gk(s:List UInt8):(aO (names s)).length≤s.length:=by
 have gen:∀(l:List (List UInt8)),(aO (l.filter Ck)).length≤(aO l).length:=by
  intro l;induction l with
  | nil=>simp[aO]
  | cons x r ih =>
    by_cases hk:Ck x=true
    ·rw[ahq hk];cases hr:r.filter Ck with
     | nil =>
       cases r with
       | nil=>exact cU _
       | cons y r=>simp only[aO,iO,ep];omega
     | cons y q =>
       rw[hr] at ih;cases r with
       | nil=>simp at hr
       | cons z r=>simp only[aO,iO,ep] at ih⊢;omega
    ·rw[ahr hk];cases r with
     | nil=>simp[aO]
     | cons z r=>rw[aO];simp only[iO,ep];omega
 have:=gen (parts s);rw[gJ] at this;exact this
theorem Ta(s:List UInt8)(hs:s.length≤4096):uD (s,())=some ((Gj s).1,((Gj s).2,())):=by
 unfold uD;dsimp only;rw[iD s (by omega),aa];have hm:=Jv s;have hn:=lZ s;have key:=xH (f:=lu (parts s,())) (parts s) (fun(o:List (List UInt8)) i=>(((),((i:Int),())),(o,())))
  (fun i o x=>some (.inl (if Ck x=true then o++[x] else o))) (fun i o=>(((),((i:Int),())),(o,()))) (fun i o=>o.length≤i)
  (fun o i x hx hi hI=>by
   unfold lu;dsimp only;rw[au hi,ag,aB hx,aa,aa];have hk:Ck x=(nt (cc x [])&&nt (cc x [46])):=by simp[Ck,cc,nt]
   by_cases a:x=[]
   ·rw[gH a,aJ,af,aa,af,aa,aY (by omega),br (by rw[hk,gH a];simp[nt])];rfl
   ·by_cases b:x=[46]
    ·rw[cJ a,aF,ag,gH b,aJ,aa,af,aa,aY (by omega),br (by rw[hk,gH b];simp[nt])];rfl
    ·rw[cJ a,aF,ag,cJ b,aF,aa,ag,aa,cG (by simp only[ep,ig];omega),ag,aa,aY (by omega),bu (by rw[hk,cJ a,cJ b];rfl)];rfl)
  (fun o i x o' hx hI hq=>by
   obtain rfl:=Zj (aN hq);by_cases a:Ck x=true
   ·rw[bu a];simp only[iO,ep,ig];omega
   ·rw[br a];omega)
  (fun o _=>by
   unfold lu;dsimp only;rw[aE,af];rfl)
  (fun _ _ _ _ _ h=>by cases h) [] (cU _)
 have run:∀(r:List (List UInt8)) (i:Nat) (o:List (List UInt8)),∃j,yq (fun i (o:List (List UInt8)) x=>some (Sum.inl (if Ck x=true then o++[x] else o))) (fun i o=>(((),((i:Int),())),(o,()))) r i o=some (((),(j,())),(o++r.filter Ck,())):=by
  intro r;induction r with
  | nil=>intro i o;exact⟨(i:Int),by simp[yq]⟩
  | cons x r ih =>
    intro i o;unfold yq;by_cases hk:Ck x=true
    ·simp only[bu hk];obtain⟨j,h⟩:=ih (i+1) (o++[x]);exact⟨j,by rw[h,ahq hk];simp⟩
    ·simp only[br hk];obtain⟨j,h⟩:=ih (i+1) o;exact⟨j,by rw[h,ahr hk]⟩
 obtain⟨j,h1⟩:=run (parts s) 0 [];have key':Loop (lu (parts s,())) (((),((0:Int),())),(([]:List (List UInt8)),()))=some (((),(j,())),(names s,())):=by
  have:=key.trans h1;rw[zu] at this;exact this
 have hj:=Gk s;have hnn:=S9 s;rw[key',aa];dsimp only;rw[Dj _ (by omega) (by omega),aa];have e0:ah (aj (nt (cc s [])) (ah (idx s 0) fun y4=>some (bI (u8 y4) 47)) (some false))=fun(f:Bool→Option (List UInt8×Int×Unit))=>f (decide (s.head?=some 47)):=by
  funext f;cases s with
  | nil=>rfl
  | cons b r =>
    rw[cJ (by simp),aF,ag,show idx (b::r) 0=some b from rfl,aa,aeH,aa]
    congr 1
    simp
 rw[e0];dsimp only;rw[Rk _ (by omega),aa,VI];unfold Gj wG;dsimp only;by_cases a:s.head?=some 47
 ·simp[a,aj,nt,ah]
 ·cases ha:(names s).all Cz with
  | false=>simp[a,aj,nt,ah]
  | true =>
    by_cases b:(names s).length≤8
    ·by_cases c:(aO (names s)).length≤96<;>simp[a,b,c,aj,nt,ah]
    ·simp[a,b,aj,nt,ah]
end Go.Ge
namespace Go.Ge
variable [Lp]
def NU(p:List UInt8):Nat→Option Nat
 | 0=>none
 | n+1=>if p[n]?=some 47 then some n else NU p n
theorem Yj:∀{p:List UInt8} {n k:Nat},NU p n=some k→k<n∧p[k]?=some 47∧∀j,k<j→j<n→p[j]?≠some 47:=by
 intro p n;induction n with
 | zero=>intro k h;cases h
 | succ n ih =>
   intro k h;rw[NU] at h;split at h
   ·rename_i hp;obtain rfl:=aN h;exact⟨T7 _,hp,fun j h1 h2=>by omega⟩
   ·rename_i hp;obtain⟨h1,h2,h3⟩:=ih h;refine⟨by omega,h2,fun j h4 h5=>?_⟩;by_cases e:j=n
    ·rw[e];exact hp
    ·exact h3 j h4 (by omega)
theorem Yk:∀{p:List UInt8} {n:Nat},NU p n=none→∀j,j<n→p[j]?≠some 47:=by
 intro p n;induction n with
 | zero=>intro _ j h;omega
 | succ n ih =>
   intro h j hj;rw[NU] at h;split at h
   ·cases h
   ·rename_i hp;by_cases e:j=n
    ·rw[e];exact hp
    ·exact ih h j (by omega)
def bM(p:List UInt8):List UInt8×List UInt8:=match NU p p.length with|some k=>(p.take k,p.drop (k+1))|none=>([],p)
theorem vu(p:List UInt8):(47∉p∧bM p=([],p))∨∃a b,p=a++47::b∧47∉b∧bM p=(a,b):=by
 unfold bM;cases h:NU p p.length with
 | none =>
   refine .inl ⟨fun hm=>?_,rfl⟩;obtain⟨j,hj,e⟩:=acH hm;exact Yk h j hj (by rw[kL hj,e])
 | some k =>
   obtain⟨h1,h2,h3⟩:=Yj h;refine .inr ⟨p.take k,p.drop (k+1),?_,fun hm=>?_,rfl⟩
   ·obtain⟨hk,e⟩:=List.getElem?_eq_some_iff.1 h2;rw[←e,←CD hk,CE]
   ·obtain⟨j,hj,e⟩:=acH hm;rw[qV] at hj;rw[List.getElem_drop] at e;exact h3 (k+1+j) (by omega) (by omega) (by rw[kL (by omega),e])
theorem Dk(a b:List UInt8)(hb:47∉b):cK (a++47::b)=cK a++[b]:=by
 induction a with
 | nil =>
   have e:cK (47::b)=[]::cK b:=by rw[cK,bu rfl]
   rw[zu,e,pI b hb];rfl
 | cons c a ih =>
   rw[Mm];by_cases h:c=47
   ·rw[cK,bu h,ih]
    conv=>rhs;rw[cK,bu h]
    rfl
   ·cases hs:cK a with
    | nil=>exact absurd hs (rM a)
    | cons x t =>
      rw[hs] at ih;rw[lR h hs,lR h (by rw[ih];rfl)];rfl
theorem wH(p:List UInt8)(hp:p.length≤4096):kD (p,())=some ((bM p).1,((bM p).2,())):=by
 unfold kD;dsimp only;rw[iD p (by omega),aa];by_cases h0:p=[]
 ·subst h0;rfl
 have hpp:parts p=cK p:=by unfold parts;rw[br h0]
 rcases vu p with ⟨h1,h2⟩|⟨a,b,rfl,h1,h2⟩
 ·rw[h2,hpp,pI p h1];dsimp only;have e1:pz (sub [p] 0 (minus (ef .i64 (len [p]) 1) 0),())=some ([],()):=by
   have e:sub [p] 0 (minus (ef .i64 (len [p]) 1) 0)=[]:=rfl;rw[e];exact Dj [] (by simp) (by simp[aO])
  rw[show bI (len [p]) 0=false from rfl,af,show inside 0 (ef .i64 (len [p]) 1) (len [p])=true from rfl,ag,e1,aa];rfl
 ·rw[h2,hpp,Dk a b h1];dsimp only;have hl:=E8 a;rw[iO] at hp;simp only[ep] at hp;have e1:ef .i64 (len (cK a++[b])) 1=(((cK a).length:Nat):Int):=by
   rw[bX,iO,eT (by simp only[ep,ig];omega) (by simp only[ep,ig];omega)];simp only[ep,ig];omega
  rw[e1,aM (by rw[bX,iO];simp only[ep,ig];omega),af,bq (by omega) (by omega) (by rw[bX,iO];omega),ag,kY,JW,
   Dj _ (by omega) (by rw[wF];omega),wF,aa,yK]
  simp[ah]
def vv(d n:List UInt8):List UInt8:=if d=[]∨n=[] then d++n else d++47::n
theorem BA(d n:List UInt8)(hd:d.length≤1048576)(hn:n.length≤1048576):pE (d,(n,()))=some (vv d n,()):=by
 unfold pE vv;dsimp only;by_cases a:d=[]
 ·rw[gH a,ag,bu (.inl a),a];rfl
 ·rw[cJ a,af];by_cases b:n=[]
  ·rw[gH b,ag,bu (.inr b),b,Am]
  ·rw[cJ b,af,cG (by simp only[ep,ig];omega),ag,cG (by simp only[F9,iO,ep,ig];omega),ag,br (by simp[a,b])];simp[app]
def cO(x y:List (List UInt8)):Bool:=decide (y.length<x.length∧x.take y.length=y)
theorem abk{α:Type}[DecidableEq α](Q:Nat→Nat→Nat×(Bool×Int×Unit)×Unit)(hQ:∀i j,(Q i j).1=j∧(Q i j).2.1.1=false):∀(r:List (α×α)) (i:Nat),∃q,yq (fun i (_:Unit) p=>some (if p.1=p.2 then Sum.inl () else Sum.inr (Q i 1))) (fun i _=>Q i 0) r i ()=some q ∧
  q.1=(if r.all (fun p=>decide (p.1=p.2))=true then 0 else 1)∧q.2.1.1=false:=by
 intro r;induction r with
 | nil=>intro i;exact⟨_,rfl,(hQ _ _).1,(hQ _ _).2⟩
 | cons p r ih =>
   intro i;unfold yq;by_cases h:p.1=p.2
   ·simp only[bu h];obtain⟨q,h1,h2,h3⟩:=ih (i+1);exact⟨q,h1,by rw[h2,QF,fo h,ac1],h3⟩
   ·simp only[br h];exact⟨_,rfl,by rw[(hQ _ _).1,QF,dJ h,Bool.false_and,br (by simp)],(hQ _ _).2⟩
theorem Tb(p d:List UInt8)(hp:p.length≤4096)(hd:d.length≤4096):uE (p,(d,()))=some (cO (parts p) (parts d),()):=by
 unfold uE cO;dsimp only;have h1:=lZ p;have h2:=lZ d;rw[iD p (by omega),aa,iD d (by omega),aa];dsimp only;rw[NH];generalize parts p=x at h1;generalize parts d=y at h2;by_cases h:y.length<x.length
 ·rw[dJ (by omega),af];have e:(x.zip y).length=y.length:=by rw[List.length_zip];omega
  have key:=xH (f:=lz (x,()) (y,())) (x.zip y) (fun(_:Unit) i=>((false,((i:Int),())),()))
   (fun i _ p=>some (if p.1=p.2 then .inl () else .inr (1,((false,((i:Int),())),())))) (fun i _=>(0,((false,((i:Int),())),()))) (fun _ _=>True)
   (fun u i p hp hi _=>by
    obtain⟨h1,h2⟩:=aiy hp;have hlx:=aI h1;unfold lz;dsimp only;rw[au (aI h1),au (aI h2),ag,ag,aB h1,aa,aB h2,aa];by_cases e:p.1=p.2
    ·rw[gH e,aJ,af,aY (by omega),bu e];rfl
    ·rw[cJ e,aF,ag,br e];rfl)
   (fun _ _ _ _ _ _ _=>trivial)
   (fun u _=>by
    unfold lz;dsimp only;rw[e,aE,af,af])
   (fun _ _ _ _ _ h=>by cases h) () trivial
  obtain⟨q,k1,k2,k3⟩:=abk (fun i j=>(j,((false,((i:Int),())),()))) (fun _ _=>⟨rfl,rfl⟩) (x.zip y) 0;have key':Loop (lz (x,()) (y,())) ((false,((0:Int),())),())=some q:=key.trans k1;rw[key',aa,k2,k3,aef,show min x.length y.length=y.length by omega,GJ];by_cases a:x.take y.length=y
  ·rw[fo a,bu rfl,cv,ag];simp[h,a]
  ·rw[dJ a,br (by simp),kN,af];simp[a]
 ·rw[fo (by omega),ag];simp[h]
theorem Dl(a b:List UInt8)(ha:a.length≤4096)(hb:b.length≤4096):mK (a,(b,()))=some (cmpL (parts a) (parts b),()):=by
 unfold mK;dsimp only;have h1:=lZ a;have h2:=lZ b;rw[iD a (by omega),aa,iD b (by omega),aa];generalize parts a=x at h1;generalize parts b=y at h2;have run:∀(n i:Nat),x.length-i≤n→i≤x.length→i≤y.length→∃q,Loop (dH (x,()) (y,())) ((0,((i:Int),())),())=some q ∧
   (if q.1=0 then cmpL (x.drop i) (y.drop i)=(if x.length<y.length then -1 else if y.length<x.length then 1 else 0) else q.1=1∧q.2.1.1=cmpL (x.drop i) (y.drop i)):=by
  intro n;induction n with
  | zero =>
    intro i hn hx hy;obtain rfl:i=x.length:=by omega
    refine⟨(0,((0,((x.length:Int),())),())),?_,?_⟩
    ·rw[aX];have:dH (x,()) (y,()) ((0,((x.length:Int),())),())=some (.inr (0,((0,((x.length:Int),())),()))):=by
      unfold dH;dsimp only;rw[aE,af,af]
     rw[this];rfl
    ·rw[bu rfl,T8];by_cases h:x.length<y.length
     ·rw[bu h];cases hd:y.drop x.length with
      | nil=>have:=congrArg List.length hd;rw[qV] at this;simp only[ig] at this;omega
      | cons b r=>rfl
     ·rw[br h,Mj (by omega),br (by omega)];rfl
  | succ n ih =>
    intro i hn hx hy;by_cases hi:i<x.length
    ·obtain⟨u,hu⟩:∃u,x[i]?=some u:=⟨_,kL hi⟩;obtain⟨hu1,hu2⟩:=List.getElem?_eq_some_iff.1 hu;have dx:x.drop i=u::x.drop (i+1):=by rw[CD hi,hu2]
     rw[aX];by_cases hj:i<y.length
     ·obtain⟨v,hv⟩:∃v,y[i]?=some v:=⟨_,kL hj⟩;obtain⟨hv1,QO⟩:=List.getElem?_eq_some_iff.1 hv;have dy:y.drop i=v::y.drop (i+1):=by rw[CD hj,QO]
      have st:dH (x,()) (y,()) ((0,((i:Int),())),())=if u=v then some (.inl ((0,(((i+1:Nat):Int),())),())) else some (.inr (1,((if jy u v=true then -1 else 1,((i:Int),())),()))):=by
       unfold dH;dsimp only;rw[au hi,au hj,ag,ag,aB hu,aa,aB hv,aa,aa,aa,aix];rcases Ma u v with h|rfl|h
       ·rw[h,ag,br (Ga h),bu rfl]
       ·rw[oq,af,af,bu rfl,aY (by omega)]
       ·rw[AJ h,af,h,ag,br (fun e=>Ga h e.symm),br (by simp)]
      rw[st,dx,dy,cmpL];by_cases e:u=v
      ·rw[bu e,bu e];exact ih (i+1) (by omega) (by omega) (by omega)
      ·rw[br e,br e];refine⟨_,rfl,?_⟩;rw[br (by simp)];exact⟨rfl,rfl⟩
     ·have st:dH (x,()) (y,()) ((0,((i:Int),())),())=some (.inr (0,((0,((i:Int),())),()))):=by
       unfold dH;dsimp only;rw[au hi,HA,dJ hj,ag,af]
      rw[st];refine⟨_,rfl,?_⟩;rw[bu rfl,dx,show y.drop i=[] from Mj (by omega),br (by omega),bu (by omega)];rfl
    ·exact ih i (by omega) hx hy
 obtain⟨q,k1,k2⟩:=run x.length 0 (by omega) (by omega) (by omega);have k1':Loop (dH (x,()) (y,())) ((0,((0:Int),())),())=some q:=k1;rw[k1',aa];rw[FO,FO] at k2;by_cases h:q.1=0
 ·rw[bu h] at k2;rw[h,cv,ag,Vo,Vo,k2];by_cases l:x.length<y.length
  ·rw[fo l,ag,bu l]
  ·rw[dJ l,af,br l];by_cases m:y.length<x.length
   ·rw[fo m,ag,bu m]
   ·rw[dJ m,af,br m]
 ·rw[br h] at k2;rw[k2.1,kN,af,k2.2]
end Go.Ge
namespace Go.Ge
variable [Lp]
theorem VJ(s p:List UInt8):dS (s,(p,()))=some (decide (s.take p.length=p),()):=by
 unfold dS;dsimp only;rw[NH];by_cases h:p.length≤s.length
 ·rw[fo h,ag,show inside 0 (len p) (len s)=true from bq (by decide) (by rw[bX];omega) (by rw[bX,bX];omega),ag,Q8,aa];rfl
 ·rw[dJ h,af,aa,dJ];intro e;have:=congrArg List.length e;rw[cW] at this;omega
theorem Yl(s p:List UInt8):eG (s,(p,()))=some (decide (s.take p.length=p),()):=by
 unfold eG;dsimp only;rw[VJ,aa]
theorem NV(s p:List UInt8):oD (s,(p,()))=some (decide (s.take p.length=p),()):=by
 unfold oD;dsimp only;rw[NH];by_cases h:p.length≤s.length
 ·rw[fo h,ag,show inside 0 (len p) (len s)=true from bq (by decide) (by rw[bX];omega) (by rw[bX,bX];omega),ag,Q8,aa];rfl
 ·rw[dJ h,af,aa,dJ];intro e;have:=congrArg List.length e;rw[cW] at this;omega
def wh:List UInt8:=[46,119,104,46]
def oI(n:List UInt8):Int×List UInt8 :=
 if n.take 4=wh then(if n.drop 4=[46,119,104,46,46,111,112,113] then(2,[]) else if(n.drop 4).take 4=wh∨n.drop 4=[]∨n.drop 4=[46]∨n.drop 4=[46,46] then(3,[]) else(1,n.drop 4)) else(0,n)
theorem Kq(n:List UInt8):sC (n,())=some ((oI n).1,((oI n).2,())):=by
 unfold sC oI;dsimp only;rw[NV,NV];by_cases h:n.take 4=wh
 ·have e:n=wh++n.drop 4:=by rw[←h,CE]
  rw[bu h];generalize hr:n.drop 4=r at e;by_cases h1:r=[46,119,104,46,46,111,112,113]
  ·rw[bu h1,gH (by rw[e,h1];rfl),ag]
  ·rw[br h1,cJ (by rw[e];intro q;exact h1 (by simpa [wh] using q)),af,aa];dsimp only;have a1:decide (n.take ([46,119,104,46,46,119,104,46]:List UInt8).length=[46,119,104,46,46,119,104,46])=decide (r.take 4=wh):=by
    rw[e];apply decide_eq_decide.2;simp[wh]
   have a2:cc n [46,119,104,46]=decide (r=[]):=by
    rw[e];unfold cc;apply decide_eq_decide.2;simp[wh]
   have a3:cc n [46,119,104,46,46]=decide (r=[46]):=by
    rw[e];unfold cc;apply decide_eq_decide.2;simp[wh]
   have a4:cc n [46,119,104,46,46,46]=decide (r=[46,46]):=by
    rw[e];unfold cc;apply decide_eq_decide.2;simp[wh]
   have a5:decide (n.take ([46,119,104,46]:List UInt8).length=[46,119,104,46])=true:=fo h;rw[a1,a2,a3,a4,a5];have hs:aj (aj (nt (aj (nt (aj (nt (decide (r.take 4=wh))) (decide (r=[])) true)) (decide (r=[46])) true)) (decide (r=[46,46])) true)=fun(x y:Option (Int×List UInt8×Unit))=>if r.take 4=wh∨r=[]∨r=[46]∨r=[46,46] then x else y:=by
    funext x y;by_cases b1:r.take 4=wh
    ·rw[bu (.inl b1)];simp[b1,aj,nt]
    ·by_cases b2:r=[]
     ·rw[bu (.inr (.inl b2))];simp[b2,aj,nt]
     ·by_cases b3:r=[46]
      ·rw[bu (.inr (.inr (.inl b3)))];simp[b3,aj,nt]
      ·by_cases b4:r=[46,46]
       ·rw[bu (.inr (.inr (.inr b4)))];simp[b4,aj,nt]
       ·rw[br (by simp[b1,b2,b3,b4])];simp[b1,b2,b3,b4,aj,nt]
   rw[hs];dsimp only;by_cases b:r.take 4=wh∨r=[]∨r=[46]∨r=[46,46]
   ·rw[bu b,bu b]
   ·rw[br b,br b,aa];dsimp only;have hl:4≤n.length:=by rw[e];simp[wh]
    rw[ag,show inside 4 (len n) (len n)=true from bq (by decide) (by rw[bX];omega) (EH _),ag,show sub n 4 (minus (len n) 4)=n.drop 4 from sw n 4 hl,hr]
 ·rw[br h];have n1:n≠[46,119,104,46,46,119,104,46,46,111,112,113]:=fun q=>h (by rw[q];rfl);have n2:n≠[46,119,104,46]:=fun q=>h (by rw[q];rfl);have n3:n≠[46,119,104,46,46]:=fun q=>h (by rw[q];rfl);have n4:n≠[46,119,104,46,46,46]:=fun q=>h (by rw[q];rfl);have n5:¬n.take ([46,119,104,46,46,119,104,46]:List UInt8).length=[46,119,104,46,46,119,104,46]:=fun q=>h (by
   have:=congrArg (List.take 4) q;rw[Mr] at this;exact this)
  rw[cJ n1,af,aa];dsimp only;rw[dJ n5,cJ n2,cJ n3,cJ n4];rw[show aj (aj (nt (aj (nt (aj (nt false) false true)) false true)) false true)=fun(x y:Option (Int×List UInt8×Unit))=>y from rfl];dsimp only;rw[aa];dsimp only;rw[dJ (by exact h),af]
theorem Eu{a b:Bool}:aj a b false=(a&&b):=by cases a<;>rfl
theorem yS{s:List UInt8}(h:wG s=true):(names s).all Cz=true∧(names s).length≤8∧(aO (names s)).length≤96:=by
 unfold wG at h;simp only[dW,nY] at h;exact⟨h.1.1.1,h.1.2,h.2⟩
theorem NW(l:List (List UInt8))(a:List (List UInt8))(h:∀x∈a++l,47∉x∧x≠[]):l.foldl vv (aO a)=aO (a++l):=by
 induction l generalizing a with
 | nil=>simp
 | cons x r ih =>
   have hx:=h x (by simp);have e:vv (aO a) x=aO (a++[x]):=by
    unfold vv;cases a with
    | nil=>rw[aO,bu (.inl rfl)];rfl
    | cons y q =>
      have hne:aO (y::q)≠[]:=by
       have:=(h y (by simp)).2;cases q with
       | nil=>rw[aO];exact this
       | cons z q=>rw[aO];simp
      rw[br (by simp[hne,hx.2])];have gen:∀(y:List UInt8) (q:List (List UInt8)),aO (y::q++[x])=aO (y::q)++47::x:=by
       intro y q;induction q generalizing y with
       | nil=>rfl
       | cons z q ih2 =>
         rw[Mm,Mm,aO,←Mm,ih2 z];rw[aO];simp
      exact(gen y q).symm
   rw[Ua,e,ih (a++[x]) (by intro z hz;exact h z (by simpa using hz))];simp
theorem Kr{l:List (List UInt8)}(h:∀x∈l,47∉x∧x≠[])(hne:l≠[]):bM (aO l)=(aO l.dropLast,l.getLast hne):=by
 have hs:cK (aO l)=l:=HP l hne fun x hx=>(h x hx).1;rcases vu (aO l) with ⟨h1,h2⟩|⟨a,b,h0,h1,h2⟩
 ·rw[pI _ h1] at hs;rw[h2];generalize aO l=p at hs;subst hs;rfl
 ·rw[h2];rw[h0,Dk a b h1] at hs;subst hs;rw[List.dropLast_concat,List.getLast_concat,wF]
end Go.Ge
namespace Go.Ge
variable [Lp]
set_option maxRecDepth 100000
abbrev fe:=(Sb×Sb×Sb×Unit)
abbrev oJ:=(Sb×(List Sb)×Sb×Sb×(List fe)×Unit)
abbrev Jw:=((List (Sb×(List Sb)×Sb×Sb×Sb×(List fe)×Unit))×(List oJ)×(List (Sb×Sb×(List Sb)×Sb×Int×Int×Bool×Unit))×(List Sb)×(List (Sb×Int×Unit))×Unit)
abbrev dm:=(Sb×(List Sb)×Unit)
abbrev kE:=(Int×Int×Unit)
abbrev Ym:=(Sb×(List Sb)×Sb×Sb×Sb×(List fe)×Unit)
abbrev aeI:=(Sb×Sb×(List Sb)×Sb×Int×Int×Bool×Unit)
abbrev qa:=(Bool×Int×Unit)
abbrev amz:=(Nat×kE×Unit×Sb×Unit)
abbrev amA:=(kE×Unit×Sb×Unit)
abbrev gR:=((Unit×Int×Unit)×(List Sb)×Unit)
abbrev kP:=(Nat×kE×Sb×Unit)
abbrev nK:=(Sb×Int×Int×Unit)
abbrev ak8:=((List UInt8)×((List (List UInt8))×((List UInt8)×((List UInt8)×((List ((List UInt8)×((List UInt8)×((List UInt8)×Unit))))×Unit)))))
abbrev kQ:=(kE×Sb×Unit)
abbrev qH:=(Nat×qa×Unit)
abbrev ak9:=((Int×Unit)×Unit×(List dm)×Unit)
abbrev ala:=(Int×Sb×Int×Sb×Unit)
abbrev alb:=(Nat×kE×Unit×fe×Unit)
abbrev alc:=(Nat×kE×(List Sb)×Unit)
abbrev ald:=(Int×(List aeI)×(List oJ)×(List Ym)×Unit)
abbrev yT:=((Nat×(Unit×Int×Unit)×(List Sb)×Unit))
abbrev ale:=(kE×Unit×fe×Unit)
abbrev alf:=(kE×(List Sb)×Unit)
abbrev qI:=(qa×Unit)
abbrev alg:=((Nat×(Int×Unit)×Unit×(List dm)×Unit))
abbrev alh:=(Nat×kE×Unit×oJ×Unit)
abbrev ali:=((List UInt8)×((List UInt8)×((List UInt8)×Unit)))
abbrev yU:=(Unit×Int×Unit)
def b7(x:(List fe)×Unit):Option ((List fe)×Unit) :=
 bif fits (len x.1) then some (x.1,()) else none
def pJ(x:(List dm)×Sb×Unit)(y1:kE×Sb×Unit):Option (kQ⊕kP) :=
 aj (bB y1.1.2.1 (@len dm x.1))
 (ah (@idx dm x.1 y1.1.2.1) (fun(y2:Sb×(List Sb)×Unit)=>aj (cc y2.1 y1.2.1)
 (some (Sum.inr ((1:Nat),((y1.1.2.1,(y1.1.2.1,())),(y1.2.1,()))):(kQ)⊕(kP)))
 (some (Sum.inl ((y1.1.1,(aL IntKind.i64 y1.1.2.1 (1:Int),())),(y1.2.1,())):(kQ)⊕(kP)))))
 (some (Sum.inr ((0:Nat),((y1.1.1,(y1.1.2.1,())),(y1.2.1,()))):(kQ)⊕(kP)))
def iU(x:(List dm)×Sb×Unit)(y2:kE×Sb×Unit):Option (kQ⊕kP) :=
 aj (bB y2.1.2.1 (@len dm x.1))
 (ah (@idx dm x.1 y2.1.2.1) (fun(y3:Sb×(List Sb)×Unit)=>ah (cC (y3.2.1,(y2.2.1,()))) (fun(y4:Bool×Unit)=>aj y4.1
 (some (Sum.inr ((1:Nat),((y2.1.2.1,(y2.1.2.1,())),(y2.2.1,()))):(kQ)⊕(kP)))
 (some (Sum.inl ((y2.1.1,(aL IntKind.i64 y2.1.2.1 (1:Int),())),(y2.2.1,())):(kQ)⊕(kP))))))
 (some (Sum.inr ((0:Nat),((y2.1.1,(y2.1.2.1,())),(y2.2.1,()))):(kQ)⊕(kP)))
def pK(x:(List dm)×Sb×Unit)(y2:Nat×kE×Sb×Unit)(y3:yU×(List Sb)×Unit):Option (gR⊕gR) :=
 @eP gR (aj (bB y3.1.2.1 (@len dm x.1))
 (ah (@idx dm x.1 y3.1.2.1) (fun(y4:Sb×(List Sb)×Unit)=>ah (eG (y4.1,(y2.2.2.1,()))) (fun(y5:Bool×Unit)=>ah (aj y5.1
 (aj (fits (plus (@len Sb y3.2.1) (@len Sb ([y4.1]:List Sb))))
 (some (((),()),(@app Sb y3.2.1 ([y4.1]:List Sb),())))
 none)
 (some (((),()),(y3.2.1,())))) (fun(y6:(Unit×Unit)×(List Sb)×Unit)=>some (Sum.inl (((),(aL IntKind.i64 y3.1.2.1 (1:Int),())),(y6.2.1,())):(gR)⊕yT)))))
 (some (Sum.inr ((0:Nat),(((),(y3.1.2.1,())),(y3.2.1,()))):(gR)⊕yT)))
def Jx(x:(List dm)×Sb×Unit)(y2:Nat×kE×Sb×Unit)(y3:yU×(List Sb)×Unit):Option (gR⊕gR) :=
 @eP gR (aj (bB y3.1.2.1 (@len dm x.1))
 (ah (@idx dm x.1 y3.1.2.1) (fun(y4:Sb×(List Sb)×Unit)=>ah (eG (y4.1,(y2.2.2.1,()))) (fun(y5:Bool×Unit)=>ah (aj y5.1
 (aj (fits (plus (@len Sb y3.2.1) (@len Sb ([y4.1]:List Sb))))
 (some (((),()),(@app Sb y3.2.1 ([y4.1]:List Sb),())))
 none)
 (some (((),()),(y3.2.1,())))) (fun(y6:(Unit×Unit)×(List Sb)×Unit)=>some (Sum.inl (((),(aL IntKind.i64 y3.1.2.1 (1:Int),())),(y6.2.1,())):(gR)⊕yT)))))
 (some (Sum.inr ((0:Nat),(((),(y3.1.2.1,())),(y3.2.1,()))):(gR)⊕yT)))
def Jy(x:(List dm)×Sb×Unit)(y2:kE×Sb×Unit):Option (kQ⊕kP) :=
 aj (bB y2.1.2.1 (@len dm x.1))
 (ah (@idx dm x.1 y2.1.2.1) (fun(y3:Sb×(List Sb)×Unit)=>ah (cC (y3.2.1,(y2.2.1,()))) (fun(y4:Bool×Unit)=>aj y4.1
 (some (Sum.inr ((1:Nat),((y2.1.2.1,(y2.1.2.1,())),(y2.2.1,()))):(kQ)⊕(kP)))
 (some (Sum.inl ((y2.1.1,(aL IntKind.i64 y2.1.2.1 (1:Int),())),(y2.2.1,())):(kQ)⊕(kP))))))
 (some (Sum.inr ((0:Nat),((y2.1.1,(y2.1.2.1,())),(y2.2.1,()))):(kQ)⊕(kP)))
def Jz(x:(List dm)×Sb×Unit)(y2:Nat×kE×Sb×Unit)(y3:yU×(List Sb)×Unit):Option (gR⊕gR) :=
 @eP gR (aj (bB y3.1.2.1 (@len dm x.1))
 (ah (@idx dm x.1 y3.1.2.1) (fun(y4:Sb×(List Sb)×Unit)=>ah (eG (y4.1,(y2.2.2.1,()))) (fun(y5:Bool×Unit)=>ah (aj y5.1
 (aj (fits (plus (@len Sb y3.2.1) (@len Sb ([y4.1]:List Sb))))
 (some (((),()),(@app Sb y3.2.1 ([y4.1]:List Sb),())))
 none)
 (some (((),()),(y3.2.1,())))) (fun(y6:(Unit×Unit)×(List Sb)×Unit)=>some (Sum.inl (((),(aL IntKind.i64 y3.1.2.1 (1:Int),())),(y6.2.1,())):(gR)⊕yT)))))
 (some (Sum.inr ((0:Nat),(((),(y3.1.2.1,())),(y3.2.1,()))):(gR)⊕yT)))
def JA(x:(List dm)×Sb×Unit)(y2:Nat×kE×Sb×Unit)(y3:yU×(List Sb)×Unit):Option (gR⊕gR) :=
 @eP gR (aj (bB y3.1.2.1 (@len dm x.1))
 (ah (@idx dm x.1 y3.1.2.1) (fun(y4:Sb×(List Sb)×Unit)=>ah (eG (y4.1,(y2.2.2.1,()))) (fun(y5:Bool×Unit)=>ah (aj y5.1
 (aj (fits (plus (@len Sb y3.2.1) (@len Sb ([y4.1]:List Sb))))
 (some (((),()),(@app Sb y3.2.1 ([y4.1]:List Sb),())))
 none)
 (some (((),()),(y3.2.1,())))) (fun(y6:(Unit×Unit)×(List Sb)×Unit)=>some (Sum.inl (((),(aL IntKind.i64 y3.1.2.1 (1:Int),())),(y6.2.1,())):(gR)⊕yT)))))
 (some (Sum.inr ((0:Nat),(((),(y3.1.2.1,())),(y3.2.1,()))):(gR)⊕yT)))
def nc(x:(List dm)×Sb×Unit):Option (Sb×Int×Unit) :=
 ah (Loop (pJ x) (((0:Int),((0:Int),())),(x.2.1,()))) (fun(y1:Nat×kE×Sb×Unit)=>aj (fT y1.1 (0:Nat))
 (aj (cX (0:Int) (-1:Int))
 (some (x.2.1,((0:Int),())))
 (ah (Loop (iU x) (((0:Int),((0:Int),())),(x.2.1,()))) (fun(y2:Nat×kE×Sb×Unit)=>aj (fT y2.1 (0:Nat))
 (aj (cX (0:Int) (-1:Int))
 (ah (@idx dm x.1 (-1:Int)) (fun(y3:Sb×(List Sb)×Unit)=>some (y3.1,((0:Int),()))))
 (ah (Loop (pK x y2) (((),((0:Int),())),(([]:List Sb),()))) (fun(y3:yU×(List Sb)×Unit)=>aj (aj (nt (aj (nt (cc y2.2.2.1 ([]:List (UInt8))))
 (cX (6:Int) (@len UInt8 y2.2.2.1))
 true))
 (bI (@len Sb y3.2.1) (0:Int))
 true)
 (some (([]:List (UInt8)),((3:Int),())))
 (aj (bB (1:Int) (@len Sb y3.2.1))
 (some (([]:List (UInt8)),((9:Int),())))
 (aj (within (0:Int) (@len Sb y3.2.1))
 (ah (@idx Sb y3.2.1 (0:Int)) (fun(y4:List (UInt8))=>some (y4,((0:Int),()))))
 none)))))
 (aj (cX (0:Int) y2.2.1.1)
 (ah (@idx dm x.1 y2.2.1.1) (fun(y3:Sb×(List Sb)×Unit)=>some (y3.1,((0:Int),()))))
 (ah (Loop (Jx x y2) (((),((0:Int),())),(([]:List Sb),()))) (fun(y3:yU×(List Sb)×Unit)=>aj (aj (nt (aj (nt (cc y2.2.2.1 ([]:List (UInt8))))
 (cX (6:Int) (@len UInt8 y2.2.2.1))
 true))
 (bI (@len Sb y3.2.1) (0:Int))
 true)
 (some (([]:List (UInt8)),((3:Int),())))
 (aj (bB (1:Int) (@len Sb y3.2.1))
 (some (([]:List (UInt8)),((9:Int),())))
 (aj (within (0:Int) (@len Sb y3.2.1))
 (ah (@idx Sb y3.2.1 (0:Int)) (fun(y4:List (UInt8))=>some (y4,((0:Int),()))))
 none))))))))
 (aj (cX (0:Int) y1.2.1.1)
 (some (x.2.1,((0:Int),())))
 (ah (Loop (Jy x) (((0:Int),((0:Int),())),(x.2.1,()))) (fun(y2:Nat×kE×Sb×Unit)=>aj (fT y2.1 (0:Nat))
 (aj (cX (0:Int) (-1:Int))
 (ah (@idx dm x.1 (-1:Int)) (fun(y3:Sb×(List Sb)×Unit)=>some (y3.1,((0:Int),()))))
 (ah (Loop (Jz x y2) (((),((0:Int),())),(([]:List Sb),()))) (fun(y3:yU×(List Sb)×Unit)=>aj (aj (nt (aj (nt (cc y2.2.2.1 ([]:List (UInt8))))
 (cX (6:Int) (@len UInt8 y2.2.2.1))
 true))
 (bI (@len Sb y3.2.1) (0:Int))
 true)
 (some (([]:List (UInt8)),((3:Int),())))
 (aj (bB (1:Int) (@len Sb y3.2.1))
 (some (([]:List (UInt8)),((9:Int),())))
 (aj (within (0:Int) (@len Sb y3.2.1))
 (ah (@idx Sb y3.2.1 (0:Int)) (fun(y4:List (UInt8))=>some (y4,((0:Int),()))))
 none)))))
 (aj (cX (0:Int) y2.2.1.1)
 (ah (@idx dm x.1 y2.2.1.1) (fun(y3:Sb×(List Sb)×Unit)=>some (y3.1,((0:Int),()))))
 (ah (Loop (JA x y2) (((),((0:Int),())),(([]:List Sb),()))) (fun(y3:yU×(List Sb)×Unit)=>aj (aj (nt (aj (nt (cc y2.2.2.1 ([]:List (UInt8))))
 (cX (6:Int) (@len UInt8 y2.2.2.1))
 true))
 (bI (@len Sb y3.2.1) (0:Int))
 true)
 (some (([]:List (UInt8)),((3:Int),())))
 (aj (bB (1:Int) (@len Sb y3.2.1))
 (some (([]:List (UInt8)),((9:Int),())))
 (aj (within (0:Int) (@len Sb y3.2.1))
 (ah (@idx Sb y3.2.1 (0:Int)) (fun(y4:List (UInt8))=>some (y4,((0:Int),()))))
 none)))))))))
def lC(x:Jw×Unit):Option ((List dm)×Unit) :=
 ah (tY ((3:Int),(((0:Int),(x.1.2.2.1,(([]:List oJ),(([]:List Ym),())))),()))) (fun(y1:(List dm)×Unit)=>some (y1.1,()))
def ng(x:Jw×Sb×Unit):Option (Sb×Int×Unit) :=
 ah (lC (x.1,())) (fun(y1:(List dm)×Unit)=>ah (nc (y1.1,(x.2.1,()))) (fun(y2:Sb×Int×Unit)=>some (y2.1,(y2.2.1,()))))
def sG(x:Jw×Unit):Option ((List dm)×Unit) :=
 ah (tY ((2:Int),(((0:Int),(([]:List aeI),(x.1.2.1,(([]:List Ym),())))),()))) (fun(y1:(List dm)×Unit)=>some (y1.1,()))
def yV(x:Int×Unit):Option (Sb×Unit) :=
 aj (bB (16:Int) (0:Int))
 none
 (aj (bB (8:Int) (0:Int))
 none
 (ah (sy (bt ([qW IntKind.u8 (rU IntKind.i64 x.1 (16:Int)),qW IntKind.u8 (rU IntKind.i64 x.1 (8:Int)),qW IntKind.u8 x.1]:List (Int)),())) (fun(y1:Sb×Unit)=>some (y1.1,()))))
def gS(x:(List dm)×Int×Unit)(y3:kE×Sb×Unit):Option (kQ⊕kP) :=
 aj (bB y3.1.2.1 (@len dm x.1))
 (ah (@idx dm x.1 y3.1.2.1) (fun(y4:Sb×(List Sb)×Unit)=>aj (cc y4.1 y3.2.1)
 (some (Sum.inr ((1:Nat),((y3.1.2.1,(y3.1.2.1,())),(y3.2.1,()))):(kQ)⊕(kP)))
 (some (Sum.inl ((y3.1.1,(aL IntKind.i64 y3.1.2.1 (1:Int),())),(y3.2.1,())):(kQ)⊕(kP)))))
 (some (Sum.inr ((0:Nat),((y3.1.1,(y3.1.2.1,())),(y3.2.1,()))):(kQ)⊕(kP)))
def jX(x:(List dm)×Int×Unit)(y1:nK×Unit):Option ((nK×Unit)⊕(Nat×nK×Unit)) :=
 aj (bB y1.1.2.2.1 (aL IntKind.i64 (@len dm x.1) (1:Int)))
 (aj (bI (16777216:Int) (0:Int))
 none
 (ah (yV (jz (aL IntKind.i64 (jA IntKind.i64 x.2.1 (16777215:Int)) y1.1.2.2.1) (16777216:Int),())) (fun(y2:Sb×Unit)=>ah (Loop (gS x) (((0:Int),((0:Int),())),(y2.1,()))) (fun(y3:Nat×kE×Sb×Unit)=>aj (fT y3.1 (0:Nat))
 (aj (nt (cX (0:Int) (-1:Int)))
 (some (Sum.inr ((1:Nat),((y2.1,((0:Int),(y1.1.2.2.1,()))),())):((nK×Unit))⊕((Nat×nK×Unit))))
 (some (Sum.inl ((y1.1.1,(y1.1.2.1,(aL IntKind.i64 y1.1.2.2.1 (1:Int),()))),()):((nK×Unit))⊕((Nat×nK×Unit)))))
 (aj (nt (cX (0:Int) y3.2.1.1))
 (some (Sum.inr ((1:Nat),((y2.1,((0:Int),(y1.1.2.2.1,()))),())):((nK×Unit))⊕((Nat×nK×Unit))))
 (some (Sum.inl ((y1.1.1,(y1.1.2.1,(aL IntKind.i64 y1.1.2.2.1 (1:Int),()))),()):((nK×Unit))⊕((Nat×nK×Unit)))))))))
 (some (Sum.inr ((0:Nat),((y1.1.1,(y1.1.2.1,(y1.1.2.2.1,()))),())):((nK×Unit))⊕((Nat×nK×Unit))))
def oK(x:(List dm)×Int×Unit):Option (Sb×Int×Unit) :=
 aj (cX (32:Int) (@len dm x.1))
 (some (([]:List (UInt8)),((5:Int),())))
 (ah (Loop (jX x) ((([]:List (UInt8)),((0:Int),((0:Int),()))),())) (fun(y1:Nat×nK×Unit)=>aj (fT y1.1 (0:Nat))
 (some (([]:List (UInt8)),((5:Int),())))
 (some (y1.2.1.1,(y1.2.1.2.1,())))))
def nh(x:Jw×Sb×Unit):Option (Sb×Int×Unit) :=
 ah (sG (x.1,())) (fun(y1:(List dm)×Unit)=>ah (nc (y1.1,(x.2.1,()))) (fun(y2:Sb×Int×Unit)=>some (y2.1,(y2.2.1,()))))
def qJ(x:Jw×Sb×Unit)(y1:qa×oJ×Unit):Option ((qa×oJ×Unit)⊕(Nat×qa×oJ×Unit)) :=
 aj (bB y1.1.2.1 (@len oJ x.1.2.1))
 (ah (@idx oJ x.1.2.1 y1.1.2.1) (fun(y2:Sb×(List Sb)×Sb×Sb×(List fe)×Unit)=>aj (cc y2.1 x.2.1)
 (ah (bz (y2.2.1,())) (fun(y3:(List Sb)×Unit)=>ah (b7 (y2.2.2.2.2.1,())) (fun(y4:(List fe)×Unit)=>some (Sum.inr ((1:Nat),((true,(y1.1.2.1,())),((y2.1,(y3.1,(y2.2.2.1,(y2.2.2.2.1,(y4.1,y2.2.2.2.2.2))))),()))):((qa×oJ×Unit))⊕((Nat×qa×oJ×Unit))))))
 (some (Sum.inl ((y1.1.1,(aL IntKind.i64 y1.1.2.1 (1:Int),())),(y1.2.1,())):((qa×oJ×Unit))⊕((Nat×qa×oJ×Unit))))))
 (some (Sum.inr ((0:Nat),((y1.1.1,(y1.1.2.1,())),(y1.2.1,()))):((qa×oJ×Unit))⊕((Nat×qa×oJ×Unit))))
def wI(x:Jw×Sb×Unit):Option (oJ×Bool×Unit) :=
 ah (Loop (qJ x) ((false,((0:Int),())),((([]:List (UInt8)),(([]:List Sb),(([]:List (UInt8)),(([]:List (UInt8)),(([]:List fe),()))))),()))) (fun(y1:Nat×qa×oJ×Unit)=>aj (fT y1.1 (0:Nat))
 (some ((([]:List (UInt8)),(([]:List Sb),(([]:List (UInt8)),(([]:List (UInt8)),(([]:List fe),()))))),(false,())))
 (some (y1.2.2.1,(y1.2.1.1,()))))
def jY(x:(List fe)×(List fe)×Unit)(y1:qa×Unit):Option (qI⊕qH) :=
 aj (aj (bB y1.1.2.1 (@len fe x.1))
 (bB y1.1.2.1 (@len fe x.2.1))
 false)
 (ah (@idx fe x.1 y1.1.2.1) (fun(y2:Sb×Sb×Sb×Unit)=>ah (@idx fe x.2.1 y1.1.2.1) (fun(y3:Sb×Sb×Sb×Unit)=>aj (nt (an (cc y2.1 y3.1) (an (cc y2.2.1 y3.2.1) (an (cc y2.2.2.1 y3.2.2.1) true))))
 (some (Sum.inr ((1:Nat),((false,(y1.1.2.1,())),())):(qI)⊕(qH)))
 (some (Sum.inl ((y1.1.1,(aL IntKind.i64 y1.1.2.1 (1:Int),())),()):(qI)⊕(qH))))))
 (some (Sum.inr ((0:Nat),((y1.1.1,(y1.1.2.1,())),())):(qI)⊕(qH)))
def gT(x:(List fe)×(List fe)×Unit):Option (Bool×Unit) :=
 aj (nt (bI (@len fe x.1) (@len fe x.2.1)))
 (some (false,()))
 (ah (Loop (jY x) ((false,((0:Int),())),())) (fun(y1:Nat×qa×Unit)=>aj (fT y1.1 (0:Nat))
 (some (true,()))
 (some (y1.2.1.1,()))))
def pL(x:(List fe)×Unit)(y1:qa×Unit):Option (qI⊕qH) :=
 aj (bB y1.1.2.1 (@len fe x.1))
 (ah (@idx fe x.1 y1.1.2.1) (fun(y2:Sb×Sb×Sb×Unit)=>ah (oE (y2.1,())) (fun(y3:Bool×Unit)=>aj (nt y3.1)
 (some (Sum.inr ((1:Nat),((false,(y1.1.2.1,())),())):(qI)⊕(qH)))
 (ah (@idx fe x.1 y1.1.2.1) (fun(y4:Sb×Sb×Sb×Unit)=>aj (bB (64:Int) (@len UInt8 y4.2.2.1))
 (some (Sum.inr ((1:Nat),((false,(y1.1.2.1,())),())):(qI)⊕(qH)))
 (ah (@idx fe x.1 y1.1.2.1) (fun(y5:Sb×Sb×Sb×Unit)=>ah (@idx fe x.1 y1.1.2.1) (fun(y6:Sb×Sb×Sb×Unit)=>ah (xK (y6.2.2.1,())) (fun(y7:Sb×Unit)=>aj (nt (cc y5.2.1 y7.1))
 (some (Sum.inr ((1:Nat),((false,(y1.1.2.1,())),())):(qI)⊕(qH)))
 (aj (bB (0:Int) y1.1.2.1)
 (ah (@idx fe x.1 (ef IntKind.i64 y1.1.2.1 (1:Int))) (fun(y8:Sb×Sb×Sb×Unit)=>ah (@idx fe x.1 y1.1.2.1) (fun(y9:Sb×Sb×Sb×Unit)=>aj (nt (jy y8.1 y9.1))
 (some (Sum.inr ((1:Nat),((false,(y1.1.2.1,())),())):(qI)⊕(qH)))
 (some (Sum.inl ((y1.1.1,(aL IntKind.i64 y1.1.2.1 (1:Int),())),()):(qI)⊕(qH))))))
 (some (Sum.inl ((y1.1.1,(aL IntKind.i64 y1.1.2.1 (1:Int),())),()):(qI)⊕(qH)))))))))))))
 (some (Sum.inr ((0:Nat),((y1.1.1,(y1.1.2.1,())),())):(qI)⊕(qH)))
def ni(x:(List fe)×Unit):Option (Bool×Unit) :=
 ah (Loop (pL x) ((false,((0:Int),())),())) (fun(y1:Nat×qa×Unit)=>aj (fT y1.1 (0:Nat))
 (some (cX (@len fe x.1) (4:Int),()))
 (some (y1.2.1.1,())))
end Go.Ge
namespace Go.Ge
variable [Lp]
def Tc(ref:Tx)(x:Nm):List Tx:=if x.1.take ref.length=ref then [x.1] else []
def Td(l:List Nm)(ref:Tx):List Tx:=l.flatMap (Tc ref)
def w8(ref:Tx)(f:List Tx):Tx×Int×Unit:=if ref=[]∨6≤ref.length then([],(3,())) else match f with|[]=>([],(3,()))|[a]=>(a,(0,()))|_=>([],(9,()))
def dI(l:List Nm)(ref:Tx):Tx×Int×Unit:=if ∃x∈l,x.1=ref then(ref,(0,())) else
 match l.find? (fun x=>decide (ref∈x.2.1)) with|some x=>(x.1,(0,()))|none=>w8 ref (Td l ref)
theorem Te(ref:Tx)(f:List Tx):aj (aj (nt (aj (nt (cc ref ([]:Tx))) (cX (6:Int) (@len UInt8 ref)) true)) (bI (@len Tx f) (0:Int)) true) (some (([]:Tx),((3:Int),())))
  (aj (bB (1:Int) (@len Tx f)) (some (([]:Tx),((9:Int),()))) (aj (within (0:Int) (@len Tx f)) (ah (@idx Tx f (0:Int)) (fun(y4:Tx)=>some (y4,((0:Int),())))) none))=some (w8 ref f):=by
 have e1:cc ref ([]:Tx)=decide (ref=[]):=rfl;have e2:cX (6:Int) (@len UInt8 ref)=decide (6≤ref.length):=by unfold cX len;apply decide_eq_decide.2;omega
 unfold w8;rw[e1,e2];by_cases h1:ref=[]
 ·rw[bu (.inl h1),fo h1];rfl
 ·rw[dJ h1];by_cases h2:6≤ref.length
  ·rw[bu (.inr h2),fo h2];rfl
  ·rw[br (by rintro(h|h);exact h1 h;exact h2 h),dJ h2]
   match f with
   | []=>rfl
   | [a]=>rfl
   | a::b::r =>
     have:bB (1:Int) (@len Tx (a::b::r))=true:=aT (by simp only[len,ep];omega);have h0:bI (@len Tx (a::b::r)) (0:Int)=false:=aM (by simp only[len,ep];omega);rw[h0,this];rfl
theorem Yn(l:List Nm)(ref:Tx)(hl:l.length≤1000000)(q:Nat×(Int×Int×Unit)×Tx×Unit)(hq:q.2.2.1=ref) :
  Loop (pK (l,(ref,())) q) (((),((0:Int),())),(([]:List Tx),()))=some (((),((l.length:Int),())),(Td l ref,())):=by
 refine C7 l (fun out i=>(((),(i,())),(out,()))) (Tc ref) _ (by omega) (fun i x hx hi ha=>?_) ?_
 ·have hb:((l.take i).flatMap (Tc ref)).length≤l.length:=by
   have:=pH (g:=Tc ref) (fun x=>by unfold Tc;split<;>simp) l i;omega
  unfold pK;dsimp only;rw[au hi,ag,aB hx,aa,hq,Yl,aa,ha];unfold Tc;by_cases h:x.1.take ref.length=ref
  ·rw[fo h,bu h,ag];have:fits (plus (@len Tx ((l.take i).flatMap (Tc ref))) (@len Tx ([x.1]:List Tx)))=true:=cG (by show _+1≤_;omega);unfold Tc at this;rw[this];rfl
  ·rw[dJ h,br h];rw[Am];rfl
 ·unfold pK;dsimp only;rw[aE,af];rfl
theorem vP(l:List Nm)(ref:Tx)(hl:Small l)(LY:l.length≤1000000):nc (l,(ref,()))=some (dI l ref):=by
 unfold nc;dsimp only;have mid:∀{f1:(Int×Int×Unit)×Tx×Unit→Option (((Int×Int×Unit)×Tx×Unit)⊕(Nat×(Int×Int×Unit)×Tx×Unit))},f1=iU (l,(ref,())) →
   (∃(i:Nat) (x:Nm),l[i]?=some x∧decide (ref∈x.2.1)=true∧(∀(j:Nat) (y:Nm),j<i→l[j]?=some y→decide (ref∈y.2.1)=false)∧Loop f1 (((0:Int),((0:Int),())),(ref,()))=some (1,(((i:Int),((i:Int),())),(ref,())))) ∨
   ((∀(i:Nat) (x:Nm),l[i]?=some x→decide (ref∈x.2.1)=false)∧Loop f1 (((0:Int),((0:Int),())),(ref,()))=some (0,(((0:Int),(len l,())),(ref,())))):=by
  intro f1 hf;subst hf;exact p8 (f:=iU (l,(ref,()))) l (fun i=>(((0:Int),(i,())),(ref,()))) (fun _ x=>decide (ref∈x.2.1)) (fun i x=>(1,(((i:Int),((i:Int),())),(ref,())))) (0,(((0:Int),(len l,())),(ref,()))) hl.1 (fun i x hx hi ha=>by
   unfold iU;dsimp only;rw[au hi,ag,aB hx,aa,Dd x.2.1 ref (hl.2 x (gm hx)),aa,iB,ha];by_cases h:ref∈x.2.1<;>simp[h]) (by unfold iU;dsimp only;rw[aE,af];rfl)
 rcases p8 (f:=pJ (l,(ref,()))) l (fun i=>(((0:Int),(i,())),(ref,()))) (fun _ x=>decide (x.1=ref)) (fun i x=>(1,(((i:Int),((i:Int),())),(ref,())))) (0,(((0:Int),(len l,())),(ref,()))) hl.1 (fun i x hx hi ha=>by
  unfold pJ;dsimp only;rw[au hi,ag,aB hx,aa,iB,ha];by_cases h:x.1=ref<;>simp[cc,h]) (by unfold pJ;dsimp only;rw[aE,af];rfl) with ⟨i,x,hx,hp,hj,h⟩|⟨hn,h⟩
 ·rw[h,aa];dsimp only;rw[show fT 1 0=false from rfl,af,cE (by omega),ag];unfold dI;rw[bu ⟨x,gm hx,ic hp⟩]
 ·rw[h,aa];dsimp only;rw[show fT 0 0=true from rfl,ag,show cX (0:Int) (-1)=false from rfl,af];have hno:¬∃x∈l,x.1=ref:=by
   rintro⟨x,hx,he⟩;obtain⟨i,hi⟩:=bJ.1 hx;have:=hn i x hi;simp[he] at this
  unfold dI;rw[br hno];rcases mid (f1:=iU (l,(ref,()))) rfl with ⟨i,x,hx,hp,hj,h⟩|⟨hn,h⟩
  ·rw[h,aa];dsimp only;rw[show fT 1 0=false from rfl,af,cE (by omega),ag,aB hx,aa];have:l.find? (fun x=>decide (ref∈x.2.1))=some x:=by
    rw[ahk];refine⟨hp,i,aI hx,?_,fun j hji=>?_⟩
    ·have:=kL (aI hx);rw[hx] at this;exact(aN this).symm
    ·have hlt:=aI hx;have:=hj j l[j] hji (kL (by omega));simpa using this
   rw[this]
  ·rw[h,aa];dsimp only;rw[show fT 0 0=true from rfl,ag,af,Yn l ref LY _ rfl,aa];have:l.find? (fun x=>decide (ref∈x.2.1))=none:=by
    rw[acM];intro x hx;obtain⟨i,hi⟩:=bJ.1 hx;have:=hn i x hi;simpa using this
   rw[this];exact Te ref (Td l ref)
end Go.Ge
namespace Go.Ge
variable [Lp]
set_option maxRecDepth 100000
abbrev bG:=(Sb×Int×Int×Sb×Sb×Unit)
abbrev wk:=(Bool×Int×Unit)
abbrev VK:=((Unit×Int×Unit)×(List bG)×Unit)
abbrev Dm:=(Nat×wk×Unit)
abbrev E9:=(Int×Int×Unit)
def nL(x:Sb×Unit)(y1:wk×Unit):Option ((wk×Unit)⊕Dm) :=
 aj (bB y1.1.2.1 (@len UInt8 x.1))
 (ah (@idx UInt8 x.1 y1.1.2.1) (fun(y2:UInt8)=>aj (bI (u8 y2) (0:Int))
 (some (Sum.inr ((1:Nat),((false,(y1.1.2.1,())),())):((wk×Unit))⊕(Dm)))
 (some (Sum.inl ((y1.1.1,(aL IntKind.i64 y1.1.2.1 (1:Int),())),()):((wk×Unit))⊕(Dm)))))
 (some (Sum.inr ((0:Nat),((y1.1.1,(y1.1.2.1,())),())):((wk×Unit))⊕(Dm)))
def sH(x:Sb×Unit):Option (Bool×Unit) :=
 ah (Loop (nL x) ((false,((0:Int),())),())) (fun(y1:Nat×wk×Unit)=>aj (fT y1.1 (0:Nat))
 (some (aj (cX (1:Int) (@len UInt8 x.1))
 (cX (@len UInt8 x.1) (100:Int))
 false,()))
 (some (y1.2.1.1,())))
def lS(x:bG×Unit):Option (Bool×Unit) :=
 ah (kD (x.1.1,())) (fun(y1:Sb×Sb×Unit)=>ah (sC (y1.2.1,())) (fun(y2:Int×Sb×Unit)=>ah (aj (nt (cc x.1.1 ([]:List (UInt8))))
 (ah (xL (x.1.1,())) (fun(y3:Bool×Unit)=>some y3.1))
 (some false)) (fun(y3:Bool)=>aj (bI x.1.2.1 (1:Int))
 (some (aj (aj (aj (aj (aj (aj (aj y3
 (cX (@len UInt8 x.1.1) (92:Int))
 false)
 (cX (@len UInt8 y1.2.1) (28:Int))
 false)
 (bI y2.1 (0:Int))
 false)
 (cX (0:Int) x.1.2.2.1)
 false)
 (cX x.1.2.2.1 (4095:Int))
 false)
 (cc x.1.2.2.2.2.1 ([]:List (UInt8)))
 false)
 (cX (@len UInt8 x.1.2.2.2.1) (8192:Int))
 false,()))
 (aj (bI x.1.2.1 (2:Int))
 (some (aj (aj (aj (aj (aj (aj (aj y3
 (cX (@len UInt8 x.1.1) (92:Int))
 false)
 (cX (@len UInt8 y1.2.1) (28:Int))
 false)
 (bI y2.1 (0:Int))
 false)
 (cX (0:Int) x.1.2.2.1)
 false)
 (cX x.1.2.2.1 (4095:Int))
 false)
 (cc x.1.2.2.2.2.1 ([]:List (UInt8)))
 false)
 (cc x.1.2.2.2.1 ([]:List (UInt8)))
 false,()))
 (aj (bI x.1.2.1 (3:Int))
 (ah (aj (aj (aj (aj (aj (aj (aj y3
 (cX (@len UInt8 x.1.1) (92:Int))
 false)
 (cX (@len UInt8 y1.2.1) (28:Int))
 false)
 (bI y2.1 (0:Int))
 false)
 (cX (0:Int) x.1.2.2.1)
 false)
 (cX x.1.2.2.1 (4095:Int))
 false)
 (cc x.1.2.2.2.1 ([]:List (UInt8)))
 false)
 (ah (sH (x.1.2.2.2.2.1,())) (fun(y4:Bool×Unit)=>some y4.1))
 (some false)) (fun(y4:Bool)=>some (y4,())))
 (some (false,())))))))
def qK(x:(List bG)×Sb×Unit)(y1:E9×Unit):Option ((E9×Unit)⊕(Nat×E9×Unit)) :=
 aj (bB y1.1.2.1 (@len bG x.1))
 (ah (@idx bG x.1 y1.1.2.1) (fun(y2:Sb×Int×Int×Sb×Sb×Unit)=>aj (cc y2.1 x.2.1)
 (some (Sum.inr ((1:Nat),((y1.1.2.1,(y1.1.2.1,())),())):((E9×Unit))⊕((Nat×E9×Unit))))
 (some (Sum.inl ((y1.1.1,(aL IntKind.i64 y1.1.2.1 (1:Int),())),()):((E9×Unit))⊕((Nat×E9×Unit))))))
 (some (Sum.inr ((0:Nat),((y1.1.1,(y1.1.2.1,())),())):((E9×Unit))⊕((Nat×E9×Unit))))
def iE(x:(List bG)×Sb×Unit):Option (Int×Unit) :=
 ah (Loop (qK x) (((0:Int),((0:Int),())),())) (fun(y1:Nat×E9×Unit)=>aj (fT y1.1 (0:Nat))
 (some ((-1:Int),()))
 (some (y1.2.1.1,())))
def oL(x:(List bG)×Sb×Unit):Option (Bool×Unit) :=
 ah (iE (x.1,(x.2.1,()))) (fun(y1:Int×Unit)=>ah (aj (nt (cc x.2.1 ([]:List (UInt8))))
 (ah (aj (cX (0:Int) y1.1)
 (ah (@idx bG x.1 y1.1) (fun(y2:Sb×Int×Int×Sb×Sb×Unit)=>some (bI y2.2.1 (2:Int))))
 (some false)) (fun(y2:Bool)=>some y2))
 (some true)) (fun(y2:Bool)=>some (y2,())))
def uL(x:(List bG)×Unit)(y1:wk×Unit):Option ((wk×Unit)⊕Dm) :=
 aj (bB y1.1.2.1 (@len bG x.1))
 (ah (@idx bG x.1 y1.1.2.1) (fun(y2:Sb×Int×Int×Sb×Sb×Unit)=>ah (kD (y2.1,())) (fun(y3:Sb×Sb×Unit)=>ah (@idx bG x.1 y1.1.2.1) (fun(y4:Sb×Int×Int×Sb×Sb×Unit)=>ah (lS (y4,())) (fun(y5:Bool×Unit)=>aj (nt y5.1)
 (some (Sum.inr ((1:Nat),((false,(y1.1.2.1,())),())):((wk×Unit))⊕(Dm)))
 (ah (oL (x.1,(y3.1,()))) (fun(y6:Bool×Unit)=>aj (nt y6.1)
 (some (Sum.inr ((1:Nat),((false,(y1.1.2.1,())),())):((wk×Unit))⊕(Dm)))
 (aj (bB (0:Int) y1.1.2.1)
 (ah (@idx bG x.1 (ef IntKind.i64 y1.1.2.1 (1:Int))) (fun(y7:Sb×Int×Int×Sb×Sb×Unit)=>ah (@idx bG x.1 y1.1.2.1) (fun(y8:Sb×Int×Int×Sb×Sb×Unit)=>ah (mK (y7.1,(y8.1,()))) (fun(y9:Int×Unit)=>aj (cX (0:Int) y9.1)
 (some (Sum.inr ((1:Nat),((false,(y1.1.2.1,())),())):((wk×Unit))⊕(Dm)))
 (some (Sum.inl ((y1.1.1,(aL IntKind.i64 y1.1.2.1 (1:Int),())),()):((wk×Unit))⊕(Dm)))))))
 (some (Sum.inl ((y1.1.1,(aL IntKind.i64 y1.1.2.1 (1:Int),())),()):((wk×Unit))⊕(Dm)))))))))))
 (some (Sum.inr ((0:Nat),((y1.1.1,(y1.1.2.1,())),())):((wk×Unit))⊕(Dm)))
def l8(x:(List bG)×Unit):Option (Bool×Unit) :=
 aj (bB (64:Int) (@len bG x.1))
 (some (false,()))
 (ah (Loop (uL x) ((false,((0:Int),())),())) (fun(y1:Nat×wk×Unit)=>aj (fT y1.1 (0:Nat))
 (some (true,()))
 (some (y1.2.1.1,()))))
def jh(x:(List bG)×Sb×Bool×Unit)(y1:(Unit×Int×Unit)×(List bG)×Unit):Option (VK⊕VK) :=
 @eP VK (aj (bB y1.1.2.1 (@len bG x.1))
 (ah (@idx bG x.1 y1.1.2.1) (fun(y2:Sb×Int×Int×Sb×Sb×Unit)=>ah (uE (y2.1,(x.2.1,()))) (fun(y3:Bool×Unit)=>ah (aj (nt y3.1)
 (ah (aj (nt (nt x.2.2.1))
 (ah (@idx bG x.1 y1.1.2.1) (fun(y4:Sb×Int×Int×Sb×Sb×Unit)=>some (nt (cc y4.1 x.2.1))))
 (some true)) (fun(y4:Bool)=>some y4))
 (some false)) (fun(y4:Bool)=>ah (aj y4
 (ah (@idx bG x.1 y1.1.2.1) (fun(y5:Sb×Int×Int×Sb×Sb×Unit)=>aj (fits (plus (@len bG y1.2.1) (@len bG ([y5]:List bG))))
 (some (((),()),(@app bG y1.2.1 ([y5]:List bG),())))
 none))
 (some (((),()),(y1.2.1,())))) (fun(y5:(Unit×Unit)×(List bG)×Unit)=>some (Sum.inl (((),(aL IntKind.i64 y1.1.2.1 (1:Int),())),(y5.2.1,())):(VK)⊕((Nat×(Unit×Int×Unit)×(List bG)×Unit))))))))
 (some (Sum.inr ((0:Nat),(((),(y1.1.2.1,())),(y1.2.1,()))):(VK)⊕((Nat×(Unit×Int×Unit)×(List bG)×Unit)))))
def jI(x:(List bG)×Sb×Bool×Unit):Option ((List bG)×Unit) :=
 ah (Loop (jh x) (((),((0:Int),())),(([]:List bG),()))) (fun(y1:(Unit×Int×Unit)×(List bG)×Unit)=>some (y1.2.1,()))
def lD(x:(List bG)×bG×Unit)(y8:((List bG)×Unit)×Unit)(y9:(Int×Unit)×Unit):Option (((Int×Unit)×Unit)⊕((Int×Unit)×Unit)) :=
 @eP ((Int×Unit)×Unit) (aj (bB y9.1.1 (@len bG y8.1.1))
 (ah (@idx bG y8.1.1 y9.1.1) (fun(Ai:Sb×Int×Int×Sb×Sb×Unit)=>ah (mK (Ai.1,(x.2.1.1,()))) (fun(qB:Int×Unit)=>aj (bB qB.1 (0:Int))
 (some (Sum.inl ((aL IntKind.i64 y9.1.1 (1:Int),()),()):(((Int×Unit)×Unit))⊕((Nat×(Int×Unit)×Unit))))
 (some (Sum.inr ((0:Nat),((y9.1.1,()),())):(((Int×Unit)×Unit))⊕((Nat×(Int×Unit)×Unit)))))))
 (some (Sum.inr ((0:Nat),((y9.1.1,()),())):(((Int×Unit)×Unit))⊕((Nat×(Int×Unit)×Unit)))))
def oM(x:(List bG)×bG×Unit):Option ((List bG)×Int×Unit) :=
 ah (l8 (x.1,())) (fun(y1:Bool×Unit)=>ah (aj (nt (nt y1.1))
 (ah (lS (x.2.1,())) (fun(y2:Bool×Unit)=>some (nt y2.1)))
 (some true)) (fun(y2:Bool)=>aj y2
 (some (([]:List bG),((1:Int),())))
 (ah (kD (x.2.1.1,())) (fun(y3:Sb×Sb×Unit)=>ah (aj (nt (cc y3.1 ([]:List (UInt8))))
 (ah (iE (x.1,(y3.1,()))) (fun(y4:Int×Unit)=>some (bB y4.1 (0:Int))))
 (some false)) (fun(y4:Bool)=>aj y4
 (some (([]:List bG),((3:Int),())))
 (ah (oL (x.1,(y3.1,()))) (fun(y5:Bool×Unit)=>aj (nt y5.1)
 (some (([]:List bG),((12:Int),())))
 (ah (iE (x.1,(x.2.1.1,()))) (fun(y6:Int×Unit)=>ah (aj (cX (0:Int) y6.1)
 (ah (@idx bG x.1 y6.1) (fun(y7:Sb×Int×Int×Sb×Sb×Unit)=>some (bI y7.2.1 (2:Int))))
 (some false)) (fun(y7:Bool)=>ah (aj (aj y7
 (bI x.2.1.2.1 (2:Int))
 false)
 (aj (inside (0:Int) y6.1 (@len bG x.1))
 (aj (fits (plus (@len bG ([]:List bG)) (@len bG (@sub bG x.1 (0:Int) (minus y6.1 (0:Int))))))
 (aj (inside (aL IntKind.i64 y6.1 (1:Int)) (@len bG x.1) (@len bG x.1))
 (aj (fits (plus (@len bG (@app bG ([]:List bG) (@sub bG x.1 (0:Int) (minus y6.1 (0:Int))))) (@len bG (@sub bG x.1 (aL IntKind.i64 y6.1 (1:Int)) (minus (@len bG x.1) (aL IntKind.i64 y6.1 (1:Int)))))))
 (some ((@app bG (@app bG ([]:List bG) (@sub bG x.1 (0:Int) (minus y6.1 (0:Int)))) (@sub bG x.1 (aL IntKind.i64 y6.1 (1:Int)) (minus (@len bG x.1) (aL IntKind.i64 y6.1 (1:Int)))),()),()))
 none)
 none)
 none)
 none)
 (ah (aj (cX (0:Int) y6.1)
 (ah (jI (x.1,(x.2.1.1,(true,())))) (fun(y8:(List bG)×Unit)=>some ((y8.1,()),())))
 (some ((x.1,()),()))) (fun(y8:((List bG)×Unit)×Unit)=>some ((y8.1.1,()),())))) (fun(y8:((List bG)×Unit)×Unit)=>aj (cX (64:Int) (@len bG y8.1.1))
 (some (([]:List bG),((5:Int),())))
 (ah (Loop (lD x y8) (((0:Int),()),())) (fun(y9:(Int×Unit)×Unit)=>aj (inside (0:Int) y9.1.1 (@len bG y8.1.1))
 (aj (fits (plus (@len bG ([]:List bG)) (@len bG (@sub bG y8.1.1 (0:Int) (minus y9.1.1 (0:Int))))))
 (aj (fits (plus (@len bG (@app bG ([]:List bG) (@sub bG y8.1.1 (0:Int) (minus y9.1.1 (0:Int))))) (@len bG ([x.2.1]:List bG))))
 (aj (inside y9.1.1 (@len bG y8.1.1) (@len bG y8.1.1))
 (aj (fits (plus (@len bG (@app bG (@app bG ([]:List bG) (@sub bG y8.1.1 (0:Int) (minus y9.1.1 (0:Int)))) ([x.2.1]:List bG))) (@len bG (@sub bG y8.1.1 y9.1.1 (minus (@len bG y8.1.1) y9.1.1)))))
 (some (@app bG (@app bG (@app bG ([]:List bG) (@sub bG y8.1.1 (0:Int) (minus y9.1.1 (0:Int)))) ([x.2.1]:List bG)) (@sub bG y8.1.1 y9.1.1 (minus (@len bG y8.1.1) y9.1.1)),((0:Int),())))
 none)
 none)
 none)
 none)
 none)))))))))))))
end Go.Ge
namespace Go.Ge
variable [Lp]
set_option maxRecDepth 100000
abbrev Dn:=(Sb×Int×Int×Sb×Sb×Unit)
def wJ(x:(List Dn)×Sb×Unit):Option (Dn×Bool×Unit) :=
 ah (iE (x.1,(x.2.1,()))) (fun(y1:Int×Unit)=>ah (l8 (x.1,())) (fun(y2:Bool×Unit)=>aj (aj (nt (nt y2.1))
 (bB y1.1 (0:Int))
 true)
 (some ((([]:List (UInt8)),((0:Int),((0:Int),(([]:List (UInt8)),(([]:List (UInt8)),()))))),(false,())))
 (ah (@idx Dn x.1 y1.1) (fun(y3:Sb×Int×Int×Sb×Sb×Unit)=>some (y3,(true,()))))))
def sI(x:(List Dn)×Sb×Unit):Option ((List Dn)×Unit) :=
 ah (l8 (x.1,())) (fun(y1:Bool×Unit)=>aj (nt y1.1)
 (some (([]:List Dn),()))
 (ah (jI (x.1,(x.2.1,(true,())))) (fun(y2:(List Dn)×Unit)=>some (y2.1,()))))
def uM(x:(List Dn)×Sb×Unit):Option ((List Dn)×Unit) :=
 ah (l8 (x.1,())) (fun(y1:Bool×Unit)=>aj (nt y1.1)
 (some (([]:List Dn),()))
 (ah (jI (x.1,(x.2.1,(false,())))) (fun(y2:(List Dn)×Unit)=>some (y2.1,()))))
end Go.Ge
namespace Go.Ge
variable [Lp]
set_option maxRecDepth 100000
end Go.Ge
namespace Go.Ge
variable [Lp]
set_option maxRecDepth 100000
abbrev dY:=(Sb×Int×Int×Sb×Sb×Unit)
abbrev cY:=((Sb×Int×Int×Int×Int×Int×Int×Sb×Unit)×Sb×Unit)
abbrev aiL:=((Sb×Unit)⊕((Sb×Unit)⊕(Unit⊕((dY×Unit)⊕Unit))))
abbrev vQ:=((List dY)×(List dY)×Int×Sb×Int×Unit)
abbrev Dp:=(Bool×Int×Unit)
abbrev Gl:=(Sb×Int×Int×Int×Int×Int×Int×Sb×Unit)
abbrev amB:=((List dY)×Int×(List dY)×Int×Unit)
abbrev jE:=(Sb×Bool×Int×Unit)
abbrev sJ:=((List dY)×(List dY)×Int×Int×Unit)
abbrev vR:=((List dY)×Int×Unit)
abbrev qL:=(Sb×(List cY)×Bool×Unit×Unit)
abbrev qM:=(Nat×Dp×Unit)
abbrev alj:=(Bool×(List dY)×Int×Unit)
abbrev alk:=((Sb×Unit)⊕(Unit⊕((dY×Unit)⊕Unit)))
abbrev alm:=((List UInt8)×(Int×(Int×((List UInt8)×((List UInt8)×Unit)))))
abbrev aln:=((List aiL)×Bool×Unit×Int×Unit)
abbrev uN:=(Bool×Sb×Int×Unit)
abbrev qN:=(Dp×Unit)
abbrev alo:=(Sb×Unit)
abbrev alp:=(Unit×Sb×Int×Unit)
def sK(x:cY×Sb×Unit):Option (dY×Unit) :=
 some ((x.2.1,(x.1.1.2.1,(x.1.1.2.2.1,(x.1.2.1,(x.1.1.2.2.2.2.2.2.2.1,()))))),())
def gU(y1:(List Sb)×Unit)(y2:uN×Unit):Option ((uN×Unit)⊕(Nat×uN×Unit)) :=
 aj (bB y2.1.2.2.1 (@len Sb y1.1))
 (ah (@idx Sb y1.1 y2.1.2.2.1) (fun(y3:List (UInt8))=>ah (pE (y2.1.2.1,(y3,()))) (fun(y4:Sb×Unit)=>ah (lS ((y4.1,((2:Int),((0:Int),(([]:List (UInt8)),(([]:List (UInt8)),()))))),())) (fun(y5:Bool×Unit)=>aj (nt y5.1)
 (some (Sum.inr ((1:Nat),((false,(y4.1,(y2.1.2.2.1,()))),())):((uN×Unit))⊕((Nat×uN×Unit))))
 (some (Sum.inl ((y2.1.1,(y4.1,(aL IntKind.i64 y2.1.2.2.1 (1:Int),()))),()):((uN×Unit))⊕((Nat×uN×Unit))))))))
 (some (Sum.inr ((0:Nat),((y2.1.1,(y2.1.2.1,(y2.1.2.2.1,()))),())):((uN×Unit))⊕((Nat×uN×Unit))))
def lE(x:Sb×Unit):Option (Bool×Unit) :=
 ah (eo (x.1,())) (fun(y1:(List Sb)×Unit)=>ah (Loop (gU y1) ((false,(([]:List (UInt8)),((0:Int),()))),())) (fun(y2:Nat×uN×Unit)=>aj (fT y2.1 (0:Nat))
 (some (nt (cc x.1 ([]:List (UInt8))),()))
 (some (y2.2.1.1,()))))
def pM(x:cY×Unit):Option (Int×Sb×Bool×Unit) :=
 ah (uD (x.1.1.1,())) (fun(y1:Sb×Int×Unit)=>aj (nt (bI y1.2.1 (0:Int)))
 (some ((0:Int),(([]:List (UInt8)),(false,()))))
 (ah (kD (y1.1,())) (fun(y2:Sb×Sb×Unit)=>ah (sC (y2.2.1,())) (fun(y3:Int×Sb×Unit)=>aj (bI y3.1 (1:Int))
 (ah (pE (y2.1,(y3.2.1,()))) (fun(y4:Sb×Unit)=>ah (aj (aj (bI x.1.1.2.1 (1:Int))
 (cc x.1.2.1 ([]:List (UInt8)))
 false)
 (ah (lE (y4.1,())) (fun(y5:Bool×Unit)=>some y5.1))
 (some false)) (fun(y5:Bool)=>some (y3.1,(y4.1,(y5,()))))))
 (aj (bI y3.1 (2:Int))
 (ah (aj (aj (bI x.1.1.2.1 (1:Int))
 (cc x.1.2.1 ([]:List (UInt8)))
 false)
 (ah (aj (nt (cc y2.1 ([]:List (UInt8))))
 (ah (lE (y2.1,())) (fun(y4:Bool×Unit)=>some y4.1))
 (some true)) (fun(y4:Bool)=>some y4))
 (some false)) (fun(y4:Bool)=>some (y3.1,(y2.1,(y4,())))))
 (aj (bI y3.1 (0:Int))
 (ah (aj (nt (aj (cc y1.1 ([]:List (UInt8)))
 (bI x.1.1.2.1 (2:Int))
 false))
 (ah (sK (x.1,(y1.1,()))) (fun(y4:dY×Unit)=>ah (lS (y4.1,())) (fun(y5:Bool×Unit)=>ah (aj y5.1
 (ah (lE (y1.1,())) (fun(y6:Bool×Unit)=>some y6.1))
 (some false)) (fun(y6:Bool)=>some y6))))
 (some true)) (fun(y4:Bool)=>some (y3.1,(y1.1,(y4,())))))
 (some ((0:Int),(([]:List (UInt8)),(false,()))))))))))
def pN(x:(List cY)×Unit)(y1:Dp×Unit):Option (qN⊕qM) :=
 aj (bB y1.1.2.1 (@len cY x.1))
 (ah (@idx cY x.1 y1.1.2.1) (fun(y2:Gl×Sb×Unit)=>ah (pM (y2,())) (fun(y3:Int×Sb×Bool×Unit)=>aj (nt y3.2.2.1)
 (some (Sum.inr ((1:Nat),((false,(y1.1.2.1,())),())):(qN)⊕(qM)))
 (some (Sum.inl ((y1.1.1,(aL IntKind.i64 y1.1.2.1 (1:Int),())),()):(qN)⊕(qM))))))
 (some (Sum.inr ((0:Nat),((y1.1.1,(y1.1.2.1,())),())):(qN)⊕(qM)))
def qn(x:(List cY)×Unit):Option (Bool×Unit) :=
 ah (Loop (pN x) ((false,((0:Int),())),())) (fun(y1:Nat×Dp×Unit)=>aj (fT y1.1 (0:Nat))
 (some (true,()))
 (some (y1.2.1.1,())))
def mL(y1:(List Sb)×Unit)(y2:vQ×Unit):Option ((vQ×Unit)⊕(Nat×vQ×Unit)) :=
 aj (bB (aL IntKind.i64 y2.1.2.2.2.2.1 (1:Int)) (@len Sb y1.1))
 (ah (@idx Sb y1.1 y2.1.2.2.2.2.1) (fun(y3:List (UInt8))=>ah (pE (y2.1.2.2.2.1,(y3,()))) (fun(y4:Sb×Unit)=>ah (wJ (y2.1.1,(y4.1,()))) (fun(y5:dY×Bool×Unit)=>aj (aj y5.2.1
 (bI y5.1.2.1 (2:Int))
 false)
 (some (Sum.inl ((y2.1.1,(y2.1.2.1,(y2.1.2.2.1,(y4.1,(aL IntKind.i64 y2.1.2.2.2.2.1 (1:Int),()))))),()):((vQ×Unit))⊕((Nat×vQ×Unit))))
 (ah (oM (y2.1.1,((y4.1,((2:Int),((493:Int),(([]:List (UInt8)),(([]:List (UInt8)),()))))),()))) (fun(y6:(List dY)×Int×Unit)=>aj (nt (bI y6.2.1 (0:Int)))
 (some (Sum.inr ((1:Nat),((y2.1.1,(([]:List dY),(y6.2.1,(y4.1,(y2.1.2.2.2.2.1,()))))),())):((vQ×Unit))⊕((Nat×vQ×Unit))))
 (some (Sum.inl ((y6.1,(y2.1.2.1,(y2.1.2.2.1,(y4.1,(aL IntKind.i64 y2.1.2.2.2.2.1 (1:Int),()))))),()):((vQ×Unit))⊕((Nat×vQ×Unit))))))))))
 (some (Sum.inr ((0:Nat),((y2.1.1,(y2.1.2.1,(y2.1.2.2.1,(y2.1.2.2.2.1,(y2.1.2.2.2.2.1,()))))),())):((vQ×Unit))⊕((Nat×vQ×Unit))))
def wK(x:(List dY)×Sb×Unit):Option vR :=
 ah (eo (x.2.1,())) (fun(y1:(List Sb)×Unit)=>ah (Loop (mL y1) ((x.1,(([]:List dY),((0:Int),(([]:List (UInt8)),((0:Int),()))))),())) (fun(y2:Nat×vQ×Unit)=>aj (fT y2.1 (0:Nat))
 (some (y2.2.1.1,((0:Int),())))
 (some (y2.2.1.2.1,(y2.2.1.2.2.1,())))))
def oN(x:(List dY)×(List cY)×Unit)(y3:vR×Unit):Option ((vR×Unit)⊕(vR×Unit)) :=
 @eP (vR×Unit) (aj (bB y3.1.2.1 (@len cY x.2.1))
 (ah (@idx cY x.2.1 y3.1.2.1) (fun(y4:Gl×Sb×Unit)=>ah (pM (y4,())) (fun(y5:Int×Sb×Bool×Unit)=>ah (aj (bI y5.1 (1:Int))
 (ah (sI (y3.1.1,(y5.2.1,()))) (fun(y6:(List dY)×Unit)=>some ((y6.1,()),())))
 (ah (aj (bI y5.1 (2:Int))
 (ah (uM (y3.1.1,(y5.2.1,()))) (fun(y6:(List dY)×Unit)=>some ((y6.1,()),())))
 (some ((y3.1.1,()),()))) (fun(y6:((List dY)×Unit)×Unit)=>some ((y6.1.1,()),())))) (fun(y6:((List dY)×Unit)×Unit)=>some (Sum.inl ((y6.1.1,(aL IntKind.i64 y3.1.2.1 (1:Int),())),()):((vR×Unit))⊕((Nat×vR×Unit)))))))
 (some (Sum.inr ((0:Nat),((y3.1.1,(y3.1.2.1,())),())):((vR×Unit))⊕((Nat×vR×Unit)))))
def oO(x:(List dY)×(List cY)×Unit)(y4:sJ×Unit):Option ((sJ×Unit)⊕(Nat×sJ×Unit)) :=
 aj (bB y4.1.2.2.2.1 (@len cY x.2.1))
 (ah (@idx cY x.2.1 y4.1.2.2.2.1) (fun(y5:Gl×Sb×Unit)=>ah (pM (y5,())) (fun(y6:Int×Sb×Bool×Unit)=>aj (aj (nt (nt (bI y6.1 (0:Int))))
 (cc y6.2.1 ([]:List (UInt8)))
 true)
 (some (Sum.inl ((y4.1.1,(y4.1.2.1,(y4.1.2.2.1,(aL IntKind.i64 y4.1.2.2.2.1 (1:Int),())))),()):((sJ×Unit))⊕((Nat×sJ×Unit))))
 (ah (wK (y4.1.1,(y6.2.1,()))) (fun(y7:(List dY)×Int×Unit)=>aj (nt (bI y7.2.1 (0:Int)))
 (some (Sum.inr ((1:Nat),((y4.1.1,(([]:List dY),(y7.2.1,(y4.1.2.2.2.1,())))),())):((sJ×Unit))⊕((Nat×sJ×Unit))))
 (ah (@idx cY x.2.1 y4.1.2.2.2.1) (fun(y8:Gl×Sb×Unit)=>ah (sK (y8,(y6.2.1,()))) (fun(y9:dY×Unit)=>ah (oM (y7.1,(y9.1,()))) (fun(Ai:(List dY)×Int×Unit)=>aj (nt (bI Ai.2.1 (0:Int)))
 (some (Sum.inr ((1:Nat),((y4.1.1,(([]:List dY),(Ai.2.1,(y4.1.2.2.2.1,())))),())):((sJ×Unit))⊕((Nat×sJ×Unit))))
 (some (Sum.inl ((Ai.1,(y4.1.2.1,(y4.1.2.2.1,(aL IntKind.i64 y4.1.2.2.2.1 (1:Int),())))),()):((sJ×Unit))⊕((Nat×sJ×Unit)))))))))))))
 (some (Sum.inr ((0:Nat),((y4.1.1,(y4.1.2.1,(y4.1.2.2.1,(y4.1.2.2.2.1,())))),())):((sJ×Unit))⊕((Nat×sJ×Unit))))
def yW(x:(List dY)×(List cY)×Unit):Option vR :=
 ah (l8 (x.1,())) (fun(y1:Bool×Unit)=>aj (nt y1.1)
 (some (([]:List dY),((1:Int),())))
 (ah (qn (x.2.1,())) (fun(y2:Bool×Unit)=>aj (nt y2.1)
 (some (([]:List dY),((10:Int),())))
 (ah (Loop (oN x) ((x.1,((0:Int),())),())) (fun(y3:vR×Unit)=>ah (Loop (oO x) ((y3.1.1,(([]:List dY),((0:Int),((0:Int),())))),())) (fun(y4:Nat×sJ×Unit)=>aj (fT y4.1 (0:Nat))
 (some (y4.2.1.1,((0:Int),())))
 (some (y4.2.1.2.1,(y4.2.1.2.2.1,())))))))))
def jJ(x:Sb×Unit)(y1:Dp×Unit):Option (qN⊕qM) :=
 aj (bB y1.1.2.1 (@len UInt8 x.1))
 (ah (@idx UInt8 x.1 y1.1.2.1) (fun(y2:UInt8)=>aj (nt (bI (u8 y2) (0:Int)))
 (some (Sum.inr ((1:Nat),((false,(y1.1.2.1,())),())):(qN)⊕(qM)))
 (some (Sum.inl ((y1.1.1,(aL IntKind.i64 y1.1.2.1 (1:Int),())),()):(qN)⊕(qM)))))
 (some (Sum.inr ((0:Nat),((y1.1.1,(y1.1.2.1,())),())):(qN)⊕(qM)))
def wL(x:Sb×Unit):Option (Bool×Unit) :=
 ah (Loop (jJ x) ((false,((0:Int),())),())) (fun(y1:Nat×Dp×Unit)=>aj (fT y1.1 (0:Nat))
 (some (bI (@len UInt8 x.1) (512:Int),()))
 (some (y1.2.1.1,())))
def jK(x:Sb×Unit)(y2:Dp×Unit):Option (qN⊕qM) :=
 aj (bB y2.1.2.1 (@len UInt8 x.1))
 (ah (@idx UInt8 x.1 y2.1.2.1) (fun(y3:UInt8)=>aj (nt (bI (u8 y3) (0:Int)))
 (some (Sum.inr ((1:Nat),((false,(y2.1.2.1,())),())):(qN)⊕(qM)))
 (some (Sum.inl ((y2.1.1,(aL IntKind.i64 y2.1.2.1 (1:Int),())),()):(qN)⊕(qM)))))
 (some (Sum.inr ((0:Nat),((y2.1.1,(y2.1.2.1,())),())):(qN)⊕(qM)))
def wM(x:Sb×Unit):Option (Bool×Unit) :=
 ah (aj (nt (bB (@len UInt8 x.1) (1024:Int)))
 (aj (bI (512:Int) (0:Int))
 none
 (some (nt (bI (jz (@len UInt8 x.1) (512:Int)) (0:Int)))))
 (some true)) (fun(y1:Bool)=>aj y1
 (some (false,()))
 (ah (Loop (jK x) ((false,((0:Int),())),())) (fun(y2:Nat×Dp×Unit)=>aj (fT y2.1 (0:Nat))
 (some (true,()))
 (some (y2.2.1.1,())))))
def gV(x:Sb×Unit)(y1:(Int×Unit)×Unit):Option (((Int×Unit)×Unit)⊕((Int×Unit)×Unit)) :=
 @eP ((Int×Unit)×Unit) (ah (aj (bB y1.1.1 (@len UInt8 x.1))
 (ah (@idx UInt8 x.1 y1.1.1) (fun(y2:UInt8)=>some (cX (48:Int) (u8 y2))))
 (some false)) (fun(y2:Bool)=>ah (aj y2
 (ah (@idx UInt8 x.1 y1.1.1) (fun(y3:UInt8)=>some (cX (u8 y3) (55:Int))))
 (some false)) (fun(y3:Bool)=>aj y3
 (some (Sum.inl ((aL IntKind.i64 y1.1.1 (1:Int),()),()):(((Int×Unit)×Unit))⊕((Nat×(Int×Unit)×Unit))))
 (some (Sum.inr ((0:Nat),((y1.1.1,()),())):(((Int×Unit)×Unit))⊕((Nat×(Int×Unit)×Unit)))))))
def gW(x:Sb×Unit)(y2:(Int×Int×Unit)×Unit):Option (((Int×Int×Unit)×Unit)⊕(Nat×(Int×Int×Unit)×Unit)) :=
 aj (bB y2.1.2.1 (@len UInt8 x.1))
 (ah (@idx UInt8 x.1 y2.1.2.1) (fun(y3:UInt8)=>ah (aj (nt (bI (u8 y3) (0:Int)))
 (ah (@idx UInt8 x.1 y2.1.2.1) (fun(y4:UInt8)=>some (nt (bI (u8 y4) (32:Int)))))
 (some false)) (fun(y4:Bool)=>aj y4
 (some (Sum.inr ((1:Nat),(((-1:Int),(y2.1.2.1,())),())):(((Int×Int×Unit)×Unit))⊕((Nat×(Int×Int×Unit)×Unit))))
 (some (Sum.inl ((y2.1.1,(aL IntKind.i64 y2.1.2.1 (1:Int),())),()):(((Int×Int×Unit)×Unit))⊕((Nat×(Int×Int×Unit)×Unit)))))))
 (some (Sum.inr ((0:Nat),((y2.1.1,(y2.1.2.1,())),())):(((Int×Int×Unit)×Unit))⊕((Nat×(Int×Int×Unit)×Unit))))
def fO(x:Sb×Unit):Option (Int×Unit) :=
 ah (Loop (gV x) (((0:Int),()),())) (fun(y1:(Int×Unit)×Unit)=>aj (bI y1.1.1 (@len UInt8 x.1))
 (some ((-1:Int),()))
 (ah (Loop (gW x) (((0:Int),(y1.1.1,())),())) (fun(y2:Nat×(Int×Int×Unit)×Unit)=>aj (fT y2.1 (0:Nat))
 (aj (inside (0:Int) y1.1.1 (@len UInt8 x.1))
 (ah (nH (@sub UInt8 x.1 (0:Int) (minus y1.1.1 (0:Int)),())) (fun(y3:Int×Bool×Unit)=>aj (nt y3.2.1)
 (some ((-1:Int),()))
 (some (y3.1,()))))
 none)
 (some (y2.2.1.1,())))))
def eY(x:Sb×Unit)(y3:jE×Unit):Option ((jE×Unit)⊕(Nat×jE×Unit)) :=
 aj (bB y3.1.2.2.1 (@len UInt8 x.1))
 (ah (@idx UInt8 x.1 y3.1.2.2.1) (fun(y4:UInt8)=>aj (nt (bI (u8 y4) (0:Int)))
 (some (Sum.inr ((1:Nat),((([]:List (UInt8)),(false,(y3.1.2.2.1,()))),())):((jE×Unit))⊕((Nat×jE×Unit))))
 (some (Sum.inl ((y3.1.1,(y3.1.2.1,(aL IntKind.i64 y3.1.2.2.1 (1:Int),()))),()):((jE×Unit))⊕((Nat×jE×Unit))))))
 (some (Sum.inr ((0:Nat),((y3.1.1,(y3.1.2.1,(y3.1.2.2.1,()))),())):((jE×Unit))⊕((Nat×jE×Unit))))
def dL(x:Sb×Unit)(y1:jE×Unit):Option ((jE×Unit)⊕(Nat×jE×Unit)) :=
 aj (bB y1.1.2.2.1 (@len UInt8 x.1))
 (ah (@idx UInt8 x.1 y1.1.2.2.1) (fun(y2:UInt8)=>aj (bI (u8 y2) (0:Int))
 (ah (Loop (eY x) ((y1.1.1,(y1.1.2.1,(y1.1.2.2.1,()))),())) (fun(y3:Nat×jE×Unit)=>aj (fT y3.1 (0:Nat))
 (aj (inside (0:Int) y1.1.2.2.1 (@len UInt8 x.1))
 (some (Sum.inr ((1:Nat),((@sub UInt8 x.1 (0:Int) (minus y1.1.2.2.1 (0:Int)),(true,(y1.1.2.2.1,()))),())):((jE×Unit))⊕((Nat×jE×Unit))))
 none)
 (some (Sum.inr ((1:Nat),((y3.2.1.1,(y3.2.1.2.1,(y1.1.2.2.1,()))),())):((jE×Unit))⊕((Nat×jE×Unit))))))
 (some (Sum.inl ((y1.1.1,(y1.1.2.1,(aL IntKind.i64 y1.1.2.2.1 (1:Int),()))),()):((jE×Unit))⊕((Nat×jE×Unit))))))
 (some (Sum.inr ((0:Nat),((y1.1.1,(y1.1.2.1,(y1.1.2.2.1,()))),())):((jE×Unit))⊕((Nat×jE×Unit))))
def pO(x:Sb×Unit):Option (Sb×Bool×Unit) :=
 ah (Loop (dL x) ((([]:List (UInt8)),(false,((0:Int),()))),())) (fun(y1:Nat×jE×Unit)=>aj (fT y1.1 (0:Nat))
 (some (x.1,(true,())))
 (some (y1.2.1.1,(y1.2.1.2.1,()))))
def pP(x:Sb×Unit):Option (Gl×Int×Unit) :=
 ah (aj (nt (nt (bI (@len UInt8 x.1) (512:Int))))
 (aj (inside (257:Int) (265:Int) (@len UInt8 x.1))
 (some (nt (cc (@sub UInt8 x.1 (257:Int) (minus (265:Int) (257:Int))) ([(117:UInt8),(115:UInt8),(116:UInt8),(97:UInt8),(114:UInt8),(0:UInt8),(48:UInt8),(48:UInt8)]:List (UInt8)))))
 none)
 (some true)) (fun(y1:Bool)=>ah (aj (nt y1)
 (aj (inside (148:Int) (156:Int) (@len UInt8 x.1))
 (ah (fO (@sub UInt8 x.1 (148:Int) (minus (156:Int) (148:Int)),())) (fun(y2:Int×Unit)=>ah (yP (x.1,())) (fun(y3:Int×Unit)=>some (nt (bI y2.1 y3.1)))))
 none)
 (some true)) (fun(y2:Bool)=>aj y2
 (some ((([]:List (UInt8)),((0:Int),((0:Int),((0:Int),((0:Int),((0:Int),((0:Int),(([]:List (UInt8)),())))))))),((2:Int),())))
 (aj (inside (0:Int) (100:Int) (@len UInt8 x.1))
 (ah (pO (@sub UInt8 x.1 (0:Int) (minus (100:Int) (0:Int)),())) (fun(y3:Sb×Bool×Unit)=>aj (inside (157:Int) (257:Int) (@len UInt8 x.1))
 (ah (pO (@sub UInt8 x.1 (157:Int) (minus (257:Int) (157:Int)),())) (fun(y4:Sb×Bool×Unit)=>aj (inside (345:Int) (500:Int) (@len UInt8 x.1))
 (ah (pO (@sub UInt8 x.1 (345:Int) (minus (500:Int) (345:Int)),())) (fun(y5:Sb×Bool×Unit)=>aj (inside (100:Int) (108:Int) (@len UInt8 x.1))
 (ah (fO (@sub UInt8 x.1 (100:Int) (minus (108:Int) (100:Int)),())) (fun(y6:Int×Unit)=>aj (inside (108:Int) (116:Int) (@len UInt8 x.1))
 (ah (fO (@sub UInt8 x.1 (108:Int) (minus (116:Int) (108:Int)),())) (fun(y7:Int×Unit)=>aj (inside (116:Int) (124:Int) (@len UInt8 x.1))
 (ah (fO (@sub UInt8 x.1 (116:Int) (minus (124:Int) (116:Int)),())) (fun(y8:Int×Unit)=>aj (inside (124:Int) (136:Int) (@len UInt8 x.1))
 (ah (fO (@sub UInt8 x.1 (124:Int) (minus (136:Int) (124:Int)),())) (fun(y9:Int×Unit)=>aj (inside (136:Int) (148:Int) (@len UInt8 x.1))
 (ah (fO (@sub UInt8 x.1 (136:Int) (minus (148:Int) (136:Int)),())) (fun(Ai:Int×Unit)=>ah (aj (nt (cc y5.1 ([]:List (UInt8))))
 (aj (fits (plus (@len UInt8 y5.1) (@len UInt8 ([(47:UInt8)]:List (UInt8)))))
 (aj (fits (plus (@len UInt8 (@app UInt8 y5.1 ([(47:UInt8)]:List (UInt8)))) (@len UInt8 y3.1)))
 (some ((),((@app UInt8 (@app UInt8 y5.1 ([(47:UInt8)]:List (UInt8))) y3.1,((0:Int),(y6.1,(y7.1,(y8.1,(y9.1,(Ai.1,(([]:List (UInt8)),())))))))),())))
 none)
 none)
 (some ((),((y3.1,((0:Int),(y6.1,(y7.1,(y8.1,(y9.1,(Ai.1,(([]:List (UInt8)),())))))))),())))) (fun(qB:Unit×Gl×Unit)=>ah (@idx UInt8 x.1 (156:Int)) (fun(iK:UInt8)=>ah (aj (nt (aj (nt (aj (nt (nt y3.2.1))
 (nt y4.2.1)
 true))
 (nt y5.2.1)
 true))
 (ah (vo (((aj (((aj (bI (u8 iK) (48:Int))
 ((bI (u8 iK) (48:Int),()),())
 ((bI (u8 iK) (0:Int),()),())).1).1)
 ((),((qB.2.1.1,((1:Int),qB.2.1.2.2)),()))
 ((),(((aj (bI (u8 iK) (53:Int))
 ((),((qB.2.1.1,((2:Int),qB.2.1.2.2)),()))
 ((),(((aj (bI (u8 iK) (50:Int))
 ((),((qB.2.1.1,((3:Int),(qB.2.1.2.2.1,(qB.2.1.2.2.2.1,(qB.2.1.2.2.2.2.1,(qB.2.1.2.2.2.2.2.1,(qB.2.1.2.2.2.2.2.2.1,(y4.1,qB.2.1.2.2.2.2.2.2.2.2)))))))),()))
 ((),(qB.2.1,()))).2).1,()))).2).1,()))).2).1,((256:Int),()))) (fun(gq:Bool×Unit)=>some (nt gq.1)))
 (some true)) (fun(gq:Bool)=>aj gq
 (some ((([]:List (UInt8)),((0:Int),((0:Int),((0:Int),((0:Int),((0:Int),((0:Int),(([]:List (UInt8)),())))))))),((2:Int),())))
 (some (((aj (((aj (bI (u8 iK) (48:Int))
 ((bI (u8 iK) (48:Int),()),())
 ((bI (u8 iK) (0:Int),()),())).1).1)
 ((),((qB.2.1.1,((1:Int),qB.2.1.2.2)),()))
 ((),(((aj (bI (u8 iK) (53:Int))
 ((),((qB.2.1.1,((2:Int),qB.2.1.2.2)),()))
 ((),(((aj (bI (u8 iK) (50:Int))
 ((),((qB.2.1.1,((3:Int),(qB.2.1.2.2.1,(qB.2.1.2.2.2.1,(qB.2.1.2.2.2.2.1,(qB.2.1.2.2.2.2.2.1,(qB.2.1.2.2.2.2.2.2.1,(y4.1,qB.2.1.2.2.2.2.2.2.2.2)))))))),()))
 ((),(qB.2.1,()))).2).1,()))).2).1,()))).2).1,((0:Int),()))))))))
 none))
 none))
 none))
 none))
 none))
 none))
 none))
 none)))
def eC(y1:qL×(List cY)×Unit):Option ((qL×(List cY)×Unit)⊕(Nat×qL×(List cY)×Unit)) :=
 aj (cX (512:Int) (@len UInt8 y1.1.1))
 (aj (inside (0:Int) (512:Int) (@len UInt8 y1.1.1))
 (ah (wL (@sub UInt8 y1.1.1 (0:Int) (minus (512:Int) (0:Int)),())) (fun(y2:Bool×Unit)=>aj y2.1
 (ah (wM (y1.1.1,())) (fun(y3:Bool×Unit)=>some (Sum.inr ((1:Nat),((y1.1.1,(y1.2.1,(y3.1,((),())))),(y1.2.1,()))):((qL×(List cY)×Unit))⊕((Nat×qL×(List cY)×Unit)))))
 (aj (inside (0:Int) (512:Int) (@len UInt8 y1.1.1))
 (ah (pP (@sub UInt8 y1.1.1 (0:Int) (minus (512:Int) (0:Int)),())) (fun(y3:Gl×Int×Unit)=>ah (aj (nt (aj (nt (nt (bI y3.2.1 (0:Int))))
 (bB (8192:Int) y3.1.2.2.2.2.2.1)
 true))
 (ah (mX (y3.1.2.2.2.2.2.1,())) (fun(y4:Int×Unit)=>some (bB (@len UInt8 y1.1.1) (aL IntKind.i64 (512:Int) y4.1))))
 (some true)) (fun(y4:Bool)=>aj (aj (nt y4)
 (cX (64:Int) (@len cY y1.2.1))
 true)
 (some (Sum.inr ((1:Nat),((y1.1.1,(y1.2.1,(false,((),())))),(y1.2.1,()))):((qL×(List cY)×Unit))⊕((Nat×qL×(List cY)×Unit))))
 (aj (inside (512:Int) (aL IntKind.i64 (512:Int) y3.1.2.2.2.2.2.1) (@len UInt8 y1.1.1))
 (aj (fits (plus (@len cY y1.2.1) (@len cY ([(y3.1,(@sub UInt8 y1.1.1 (512:Int) (minus (aL IntKind.i64 (512:Int) y3.1.2.2.2.2.2.1) (512:Int)),()))]:List cY))))
 (ah (mX (y3.1.2.2.2.2.2.1,())) (fun(y5:Int×Unit)=>aj (inside (aL IntKind.i64 (512:Int) y5.1) (@len UInt8 y1.1.1) (@len UInt8 y1.1.1))
 (some (Sum.inl ((@sub UInt8 y1.1.1 (aL IntKind.i64 (512:Int) y5.1) (minus (@len UInt8 y1.1.1) (aL IntKind.i64 (512:Int) y5.1)),(y1.1.2.1,(y1.1.2.2.1,((),())))),(@app cY y1.2.1 ([(y3.1,(@sub UInt8 y1.1.1 (512:Int) (minus (aL IntKind.i64 (512:Int) y3.1.2.2.2.2.2.1) (512:Int)),()))]:List cY),())):((qL×(List cY)×Unit))⊕((Nat×qL×(List cY)×Unit))))
 none))
 none)
 none))))
 none)))
 none)
 (some (Sum.inr ((0:Nat),((y1.1.1,(y1.1.2.1,(y1.1.2.2.1,((),())))),(y1.2.1,()))):((qL×(List cY)×Unit))⊕((Nat×qL×(List cY)×Unit))))
def uO(x:Sb×Unit):Option ((List cY)×Bool×Unit) :=
 aj (bB (8192:Int) (@len UInt8 x.1))
 (some (([]:List cY),(false,())))
 (ah (Loop (eC) ((x.1,(([]:List cY),(false,((),())))),(([]:List cY),()))) (fun(y1:Nat×qL×(List cY)×Unit)=>aj (fT y1.1 (0:Nat))
 (some (y1.2.2.1,(false,())))
 (some (y1.2.1.2.1,(y1.2.1.2.2.1,())))))
def l9(x:Sb×Unit):Option ((List cY)×Int×Unit) :=
 ah (uO (x.1,())) (fun(y1:(List cY)×Bool×Unit)=>aj (nt y1.2.1)
 (some (([]:List cY),((10:Int),())))
 (some (y1.1,((0:Int),()))))
def qo(x:Sb×Unit):Option (Int×Unit) :=
 ah (l9 (x.1,())) (fun(y1:(List cY)×Int×Unit)=>ah (aj (nt (nt (bI y1.2.1 (0:Int))))
 (ah (qn (y1.1,())) (fun(y2:Bool×Unit)=>some (nt y2.1)))
 (some true)) (fun(y2:Bool)=>aj y2
 (some ((10:Int),()))
 (some ((0:Int),()))))
def uP(x:(List dY)×Sb×Unit):Option vR :=
 ah (l8 (x.1,())) (fun(y1:Bool×Unit)=>aj (nt y1.1)
 (some (([]:List dY),((1:Int),())))
 (ah (qo (x.2.1,())) (fun(y2:Int×Unit)=>aj (nt (bI y2.1 (0:Int)))
 (some (([]:List dY),(y2.1,())))
 (ah (l9 (x.2.1,())) (fun(y3:(List cY)×Int×Unit)=>ah (yW (x.1,(y3.1,()))) (fun(y4:(List dY)×Int×Unit)=>some (y4.1,(y4.2.1,()))))))))
end Go.Ge
