/- Plain laws of what the functions compute: part 2. -/
import Derived.Test.YtbaijbjhkmoidaaGreatDoorPlA
import Derived.Lib.ParseIntBCases
import Derived.Lib.ItoaMem
set_option linter.unusedSectionVars false
set_option linter.unusedVariables false
set_option linter.unusedSimpArgs false
namespace Go.Ge
variable [Lp]
def s5(n x:Int):Int:=pO .u32 (ow .u32 x n) (iC .u32 x (32-n))
theorem jC{n m:Int}(h:ja .u64 (kP .u64 (dn .i64 0 n)) 31=m)(h1:fE m 0=false)(h2:dn .u64 32 m=n)(h3:fE n 0=false)(h4:32-n=m)(x:Int):bF (x,(n,()))=some (s5 n x,()):=by
 unfold bF gu s5;dsimp only;rw[h,h1,ag,h2,h3,ag,aa,h4,Hj]
theorem lR{n:Int}(h1:fE n 0=false)(h2:dn .i64 32 n=32-n)(h3:fE (32-n) 0=false)(x:Int):bz (x,(n,()))=some (s5 n x,()):=by
 unfold bz s5;dsimp only;rw[h1,ag,h2,h3,ag]
theorem r7(x:Int):bF (x,(7,()))=some (s5 7 x,()):=jC (m:=25) (by decide) (by decide) (by decide) (by decide) (by decide) x
theorem U5(x:Int):bF (x,(18,()))=some (s5 18 x,()):=jC (m:=14) (by decide) (by decide) (by decide) (by decide) (by decide) x
theorem U6(x:Int):bF (x,(17,()))=some (s5 17 x,()):=jC (m:=15) (by decide) (by decide) (by decide) (by decide) (by decide) x
theorem U7(x:Int):bF (x,(19,()))=some (s5 19 x,()):=jC (m:=13) (by decide) (by decide) (by decide) (by decide) (by decide) x
theorem r6(x:Int):bF (x,(6,()))=some (s5 6 x,()):=jC (m:=26) (by decide) (by decide) (by decide) (by decide) (by decide) x
theorem U8(x:Int):bF (x,(11,()))=some (s5 11 x,()):=jC (m:=21) (by decide) (by decide) (by decide) (by decide) (by decide) x
theorem U9(x:Int):bF (x,(25,()))=some (s5 25 x,()):=jC (m:=7) (by decide) (by decide) (by decide) (by decide) (by decide) x
theorem r2(x:Int):bF (x,(2,()))=some (s5 2 x,()):=jC (m:=30) (by decide) (by decide) (by decide) (by decide) (by decide) x
theorem Va(x:Int):bF (x,(13,()))=some (s5 13 x,()):=jC (m:=19) (by decide) (by decide) (by decide) (by decide) (by decide) x
theorem Vb(x:Int):bF (x,(22,()))=some (s5 22 x,()):=jC (m:=10) (by decide) (by decide) (by decide) (by decide) (by decide) x
theorem t7(x:Int):bz (x,(7,()))=some (s5 7 x,()):=lR (by decide) (by decide) (by decide) x
theorem t18(x:Int):bz (x,(18,()))=some (s5 18 x,()):=lR (by decide) (by decide) (by decide) x
theorem t17(x:Int):bz (x,(17,()))=some (s5 17 x,()):=lR (by decide) (by decide) (by decide) x
theorem t19(x:Int):bz (x,(19,()))=some (s5 19 x,()):=lR (by decide) (by decide) (by decide) x
theorem t6(x:Int):bz (x,(6,()))=some (s5 6 x,()):=lR (by decide) (by decide) (by decide) x
theorem t11(x:Int):bz (x,(11,()))=some (s5 11 x,()):=lR (by decide) (by decide) (by decide) x
theorem t25(x:Int):bz (x,(25,()))=some (s5 25 x,()):=lR (by decide) (by decide) (by decide) x
theorem t2(x:Int):bz (x,(2,()))=some (s5 2 x,()):=lR (by decide) (by decide) (by decide) x
theorem t13(x:Int):bz (x,(13,()))=some (s5 13 x,()):=lR (by decide) (by decide) (by decide) x
theorem t22(x:Int):bz (x,(22,()))=some (s5 22 x,()):=lR (by decide) (by decide) (by decide) x
def word(b:List Int)(t:Nat):Int :=
 pO .u32 (pO .u32 (pO .u32 (iC .u32 (kP .u32 (b.getD (4*t) 0)) 24) (iC .u32 (kP .u32 (b.getD (4*t+1) 0)) 16)) (iC .u32 (kP .u32 (b.getD (4*t+2) 0)) 8)) (kP .u32 (b.getD (4*t+3) 0))
def eg(n:Nat):List Int:=List.replicate n 0
def qa(b:List Int):Nat→List Int
 | 0=>eg 64
 | t+1=>(qa b t).set t (word b t)
theorem mu(b:List Int)(t:Nat):(qa b t).length=64:=by
 induction t with
 | zero=>rfl
 | succ t ih=>simp[qa,ih]
theorem JF(b:List Int):∀(t j:Nat),t≤j→j<64→(qa b t).getD j 0=0:=by
 intro t;induction t with
 | zero =>
   intro j _ hj;show(List.replicate 64 (0:Int)).getD j 0=0
   rw[FU,Ky,ek hj];rfl
 | succ t ih =>
   intro j h1 h2;have:=ih j (by omega) h2;simp only[qa,FU,HL] at this⊢;rw[cT (by omega)];exact this
def Re(p:List Int)(t:Nat):Int :=
 bA .u32 (bA .u32 (bA .u32 (ew .u32 (ew .u32 (s5 17 (p.getD (t-2) 0)) (s5 19 (p.getD (t-2) 0))) (ow .u32 (p.getD (t-2) 0) 10)) (p.getD (t-7) 0))
  (ew .u32 (ew .u32 (s5 7 (p.getD (t-15) 0)) (s5 18 (p.getD (t-15) 0))) (ow .u32 (p.getD (t-15) 0) 3))) (p.getD (t-16) 0)
def yE(l:List Int):Nat→List Int
 | 0=>l
 | k+1=>(yE l k).set (16+k) (Re (yE l k) (16+k))
theorem uG(l:List Int)(k:Nat):(yE l k).length=l.length:=by
 induction k with
 | zero=>rfl
 | succ k ih=>simp[yE,ih]
def oc(b:List Int):List Int:=yE (qa b 16) 48
theorem vT(b:List Int):(oc b).length=64:=by unfold oc;rw[uG,mu]
theorem four{t:Nat}(ht:t<64):iB .i64 4 (t:Int)=((4*t:Nat):Int):=by rw[vS (by omega) (by omega)];omega
theorem Fw(b:List Int)(hb:b.length=64)(t:Nat)(ht:t<16)(w:List Int)(hw:w.length=64)(h0:w.getD t 0=0)(u v:Unit)(y:List Int×Unit) :
  Loop (fS (b,u) (((t:Int),v),y)) ((0,()),(w,()))=some (((4:Int),()),(w.set t (word b t),())):=by
 let a:Nat→Int:=fun j=>match j with
  | 0=>0
  | 1=>pO .u32 (iC .u32 0 8) (kP .u32 (b.getD (4*t) 0))
  | 2=>pO .u32 (iC .u32 (pO .u32 (iC .u32 0 8) (kP .u32 (b.getD (4*t) 0))) 8) (kP .u32 (b.getD (4*t+1) 0))
  | 3=>pO .u32 (iC .u32 (pO .u32 (iC .u32 (pO .u32 (iC .u32 0 8) (kP .u32 (b.getD (4*t) 0))) 8) (kP .u32 (b.getD (4*t+1) 0))) 8) (kP .u32 (b.getD (4*t+2) 0))
  | _=>word b t
 have hstep:∀j,j<4→a (j+1)=pO .u32 (iC .u32 (a j) 8) (kP .u32 (b.getD (4*t+j) 0)):=by
  intro j hj;rcases(by omega:j=0∨j=1∨j=2∨j=3) with rfl|rfl|rfl|rfl
  ·rfl
  ·rfl
  ·rfl
  ·exact(N7 _ _ _ _).symm
 have hw0:w=w.set t 0:=by
  apply D6;intro j;rw[HL];split
  ·rename_i e;subst e;rw[ek (by omega)];rw[FU,qV (by omega)] at h0;rw[qV (by omega)];simpa using h0
  ·rfl
 have:=de (f:=fS (b,u) (((t:Int),v),y)) (r:=(((4:Int),()),(w.set t (word b t),()))) 4 (fun j=>(((j:Int),()),(w.set t (a j),()))) (fun j hj=>by
  unfold fS;dsimp only;rw[four (by omega),iV (by omega) (by omega)];have e4:minus (((4*t:Nat):Int)+4) ((4*t:Nat):Int)=4:=by unfold minus;omega
  rw[e4,bB (by omega),af,bC (by omega) (by omega),af,bC (by omega) (by omega)];have hl:(w.set t (a j)).length=64:=by simp[hw]
  have hg:(w.set t (a j)).getD t 0=a j:=by simp[FU,hw,ht,(by omega:t<64)]
  rw[iW b 0 (i:=plus ((4*t:Nat):Int) j) (k:=4*t+j) (by unfold plus;omega) (by omega),aa,af,dV _ 0 (by rw[hl];omega),hg,aa,aH (by decide),ag,af,aa,aa,aa,dh,ck (by omega),kH,List.set_set,hstep j hj])
  (by
   unfold fS;dsimp only;rw[four (by omega),iV (by omega) (by omega)];have e4:minus (((4*t:Nat):Int)+4) ((4*t:Nat):Int)=4:=by unfold minus;omega
   rw[e4,aH (by omega),ag,dJ];rfl)
 have Vc:w.set t (a 0)=w:=hw0.symm;rw[Vc] at this;exact this
theorem Io:([0,0,0,0,0,0,0,0,0,0,0,0,0,0,0,0,0,0,0,0,0,0,0,0,0,0,0,0,0,0,0,0,0,0,0,0,0,0,0,0,0,0,0,0,0,0,0,0,0,0,0,0,0,0,0,0,0,0,0,0,0,0,0,0]:List Int)=eg 64:=rfl
theorem Fx(b:List Int)(hb:b.length=64)(u:Unit):Loop (fT (b,u)) ((0,()),(eg 64,()))=some (((16:Int),()),(qa b 16,())):=by
 refine de (f:=fT (b,u)) 16 (fun t=>(((t:Int),()),(qa b t,()))) (fun t ht=>?_) ?_
 ·unfold fT;dsimp only;rw[bB (by omega),af,four (by omega),iV (by omega) (by omega),cM (by omega) (by omega) (by omega),af,Fw b hb t ht _ (mu b t) (JF b t t (kS _) (by omega)),aa,dh,ck (by omega)];rfl
 ·unfold fT;dsimp only;rw[aH (by omega),ag,dJ];rfl
theorem JG(l:List Int)(hl:l.length=64):Loop fU ((16,()),(l,()))=some (((64:Int),()),(yE l 48,())):=by
 refine de (f:=fU) 48 (fun k=>((((16+k:Nat):Int),()),(yE l k,()))) (fun k hk=>?_) ?_
 ·have hlen:(yE l k).length=64:=by rw[uG,hl]
  unfold fU;dsimp only;rw[bB (by omega),af,dI (by omega) (by omega),dI (by omega) (by omega),dI (by omega) (by omega),dI (by omega) (by omega),
   bC (by omega) (by omega),af,iW _ 0 (k:=16+k-2) (by omega) (by omega),aa,bC (by omega) (by omega),af,iW _ 0 (k:=16+k-15) (by omega) (by omega),aa,
   r7,aa,U5,aa,aH (by decide),ag,U6,aa,U7,aa,aH (by decide),ag,bC (by omega) (by omega),af,iW _ 0 (k:=16+k-7) (by omega) (by omega),aa,
   bC (by omega) (by omega),af,iW _ 0 (k:=16+k-16) (by omega) (by omega),aa,bC (by omega) (by omega),af,dV _ 0 (by omega),aa,aa,aa,dh,ck (by omega),kH]
  rfl
 ·unfold fU;dsimp only;rw[aH (by omega),ag,dJ];rfl
theorem DK(b:List Int)(hb:b.length=64)(u:Unit):ku (b,u)=some (oc b,()):=by
 unfold ku;rw[Io,Fx b hb,aa];dsimp only;rw[JG _ (mu b 16),aa];dsimp only[oc]
theorem Md(s:List UInt8){i:Nat}(h:i<s.length)(x:UInt8)(hx:s[i]?=some x):u8 x=(ak s).getD i 0:=by
 simp[ak,FU,hx,u8]
theorem JH(h:List Int)(s:List UInt8)(hs:s.length=64)(u:Unit):Loop (eZ (h,(s,u))) ((0,()),(eg 64,()))=some (((16:Int),()),(qa (ak s) 16,())):=by
 have key:∀b:List Int,b=ak s→Loop (eZ (h,(s,u))) ((0,()),(eg 64,()))=some (((16:Int),()),(qa b 16,())):=by
  intro b hb;refine de (f:=eZ (h,(s,u))) 16 (fun t=>(((t:Int),()),(qa b t,()))) (fun t ht=>?_) ?_
  ·have at_:∀(i:Int) (j:Nat),i=j→j<64→∃x,idx s i=some x∧u8 x=b.getD j 0:=by
    intro i j e hj;subst e;refine⟨s[j],?_,by rw[hb];exact Md s (by omega) _ (qV (by omega))⟩;rw[vN,qV]
   unfold eZ;dsimp only;rw[bB (by omega),af,four (by omega),iV (by omega) (by omega),iV (by omega) (by omega),iV (by omega) (by omega)];obtain⟨x0,i0,e0⟩:=at_ ((4*t:Nat):Int) (4*t) rfl (by omega);obtain⟨x1,i1,e1⟩:=at_ (((4*t:Nat):Int)+1) (4*t+1) (by omega) (by omega);obtain⟨x2,i2,e2⟩:=at_ (((4*t:Nat):Int)+2) (4*t+2) (by omega) (by omega);obtain⟨x3,i3,e3⟩:=at_ (((4*t:Nat):Int)+3) (4*t+3) (by omega) (by omega);rw[i0,aa,aH (by decide),ag,i1,aa,aH (by decide),ag,i2,aa,aH (by decide),ag,i3,aa,bC (by omega) (by omega),af,
    dV _ 0 (by rw[mu];omega),aa,aa,aa,dh,ck (by omega),kH,e0,e1,e2,e3]
   rfl
  ·unfold eZ;dsimp only;rw[aH (by omega),ag,dJ];rfl
 exact key _ rfl
theorem N8(l:List Int)(hl:l.length=64):Loop gH ((16,()),(l,()))=some (((64:Int),()),(yE l 48,())):=by
 refine de (f:=gH) 48 (fun k=>((((16+k:Nat):Int),()),(yE l k,()))) (fun k hk=>?_) ?_
 ·have hlen:(yE l k).length=64:=by rw[uG,hl]
  unfold gH;dsimp only;rw[bB (by omega),af,dI (by omega) (by omega),dI (by omega) (by omega),dI (by omega) (by omega),dI (by omega) (by omega),
   bC (by omega) (by omega),af,iW _ 0 (k:=16+k-2) (by omega) (by omega),aa,bC (by omega) (by omega),af,iW _ 0 (k:=16+k-15) (by omega) (by omega),aa,
   t17,aa,t19,aa,aH (by decide),ag,bC (by omega) (by omega),af,iW _ 0 (k:=16+k-7) (by omega) (by omega),aa,t7,aa,t18,aa,aH (by decide),ag,
   bC (by omega) (by omega),af,iW _ 0 (k:=16+k-16) (by omega) (by omega),aa,bC (by omega) (by omega),af,dV _ 0 (by omega),aa,aa,aa,dh,ck (by omega),kH]
  rfl
 ·unfold gH;dsimp only;rw[aH (by omega),ag,dJ];rfl
abbrev W8:=Int×Int×Int×Int×Int×Int×Int×Int
def SM(k w:Int):W8→W8
 | (a,b,c,d,e,f,g,h) =>
   let one:=bA .u32 (bA .u32 (bA .u32 (bA .u32 h (ew .u32 (ew .u32 (s5 6 e) (s5 11 e)) (s5 25 e))) (ew .u32 g (ja .u32 e (ew .u32 f g)))) k) w
   let two:=bA .u32 (ew .u32 (ew .u32 (s5 2 a) (s5 13 a)) (s5 22 a)) (pO .u32 (ja .u32 a b) (ja .u32 c (pO .u32 a b)))
   (bA .u32 one two,a,b,c,bA .u32 d one,e,f,g)
def vU(K w:List Int)(s:W8):Nat→W8
 | 0=>s
 | t+1=>SM (K.getD t 0) (w.getD t 0) (vU K w s t)
def mw:List Int:=[1116352408,1899447441,3049323471,3921009573,961987163,1508970993,2453635748,2870763221,3624381080,310598401,607225278,1426881987,1925078388,2162078206,2614888103,3248222580,3835390401,4022224774,264347078,604807628,770255983,1249150122,1555081692,1996064986,2554220882,2821834349,2952996808,3210313671,3336571891,3584528711,113926993,338241895,666307205,773529912,1294757372,1396182291,1695183700,1986661051,2177026350,2456956037,2730485921,2820302411,3259730800,3345764771,3516065817,3600352804,4094571909,275423344,430227734,506948616,659060556,883997877,958139571,1322822218,1537002063,1747873779,1955562222,2024104815,2227730452,2361852424,2428436474,2756734187,3204031479,3329325298]
theorem JI:sn ()=some (mw,()):=rfl
theorem Ho:n6 ()=some (mw,()):=rfl
def kU(s:W8)(t:Int):Int×Int×Int×Int×Int×Int×Int×Int×Int×Unit:=(s.1,s.2.1,s.2.2.1,s.2.2.2.1,s.2.2.2.2.1,s.2.2.2.2.2.1,s.2.2.2.2.2.2.1,s.2.2.2.2.2.2.2,t,())
def gw(s:W8):List Int:=[s.1,s.2.1,s.2.2.1,s.2.2.2.1,s.2.2.2.2.1,s.2.2.2.2.2.1,s.2.2.2.2.2.2.1,s.2.2.2.2.2.2.2]
theorem Hp(w:List Int)(hw:w.length=64)(s:W8)(u v:Unit):Loop (dL (mw,u) (w,v)) (kU s 0,())=some (kU (vU mw w s 64) 64,()):=by
 refine de (f:=dL (mw,u) (w,v)) 64 (fun t=>(kU (vU mw w s t) t,())) (fun t ht=>?_) ?_
 ·show dL (mw,u) (w,v) (kU (vU mw w s t) t,())=some (.inl (kU (SM (mw.getD t 0) (w.getD t 0) (vU mw w s t)) ((t+1:Nat):Int),()))
  generalize vU mw w s t=q;obtain⟨a,b,c,d,e,f,g,h⟩:=q;unfold dL kU;dsimp only;rw[bB (by omega),af,r6,aa,U8,aa,U9,aa,bC (by omega) (by omega),af,dV mw 0 (by show t<64;omega),aa,af,dV w 0 (by omega),aa,
   r2,aa,Va,aa,Vb,aa,dh,ck (by omega)]
  rfl
 ·unfold dL kU;dsimp only;rw[aH (by omega),ag,dJ];rfl
theorem Hq(w:List Int)(hw:w.length=64)(s:W8)(q:Int×Unit)(u v:Unit):Loop (fc (q,(w,u)) (mw,v)) ((0,()),(gw s,()))=some (((64:Int),()),(gw (vU mw w s 64),())):=by
 refine de (f:=fc (q,(w,u)) (mw,v)) 64 (fun t=>(((t:Int),()),(gw (vU mw w s t),()))) (fun t ht=>?_) ?_
 ·show fc (q,(w,u)) (mw,v) (((t:Int),()),(gw (vU mw w s t),()))=some (.inl ((((t+1:Nat):Int),()),(gw (SM (mw.getD t 0) (w.getD t 0) (vU mw w s t)),())))
  generalize vU mw w s t=q;obtain⟨a,b,c,d,e,f,g,h⟩:=q;have i0:idx (gw (a,b,c,d,e,f,g,h)) 0=some a:=rfl;have i1:idx (gw (a,b,c,d,e,f,g,h)) 1=some b:=rfl;have i2:idx (gw (a,b,c,d,e,f,g,h)) 2=some c:=rfl;have i3:idx (gw (a,b,c,d,e,f,g,h)) 3=some d:=rfl;have i4:idx (gw (a,b,c,d,e,f,g,h)) 4=some e:=rfl;have i5:idx (gw (a,b,c,d,e,f,g,h)) 5=some f:=rfl;have i6:idx (gw (a,b,c,d,e,f,g,h)) 6=some g:=rfl;have i7:idx (gw (a,b,c,d,e,f,g,h)) 7=some h:=rfl;have w0:within 0 8=true:=by decide
  have w1:within 1 8=true:=by decide
  have w2:within 2 8=true:=by decide
  have w3:within 3 8=true:=by decide
  have w4:within 4 8=true:=by decide
  have w5:within 5 8=true:=by decide
  have w6:within 6 8=true:=by decide
  have w7:within 7 8=true:=by decide
  have wt:within (t:Int) 64=true:=bC (by omega) (by omega);unfold fc;dsimp only;simp only[bB (show(t:Int)<64 by omega),af,w0,w1,w2,w3,w4,w5,w6,w7,wt,i0,i1,i2,i3,i4,i5,i6,i7,aa,t6,t11,t25,t2,t13,t22,dV mw 0 (show t<mw.length from ht),dV w 0 (show t<w.length by omega),dh,ck (show t<4611686018427387904 by omega),
   ←Rc,←PJ]
  rfl
 ·unfold fc;dsimp only;rw[aH (by omega),ag,dJ];rfl
def OZ(l:List Int):W8:=(l.getD 0 0,l.getD 1 0,l.getD 2 0,l.getD 3 0,l.getD 4 0,l.getD 5 0,l.getD 6 0,l.getD 7 0)
theorem JJ(l:List Int)(hl:l.length=8):gw (OZ l)=l:=by
 match l,hl with
 | [a,b,c,d,e,f,g,h],_=>rfl
def qb(l m:List Int):Nat→List Int
 | 0=>l
 | i+1=>(qb l m i).set i (bA .u32 (l.getD i 0) (m.getD i 0))
theorem sr(l m:List Int)(i:Nat):(qb l m i).length=l.length:=by
 induction i with
 | zero=>rfl
 | succ i ih=>simp[qb,ih]
theorem Ip(l m:List Int):∀(i j:Nat),i≤j→(qb l m i).getD j 0=l.getD j 0:=by
 intro i;induction i with
 | zero=>intro j _;rfl
 | succ i ih =>
   intro j h;have:=ih j (by omega);simp only[qb,FU,HL] at this⊢;rw[cT (by omega)];exact this
def comp(h b:List Int):List Int:=qb h (gw (vU mw (oc b) (OZ h) 64)) 8
theorem Fy(h b:List Int):(comp h b).length=h.length:=sr _ _ _
theorem JK(l m:List Int)(hl:l.length=8)(hm:m.length=8):qb l m 8=qb m l 8:=by
 match l,hl,m,hm with
 | [a,b,c,d,e,f,g,h],_,[a',b',c',d',e',f',g',h'],_ =>
   simp only[qb,List.set,List.getD_cons_zero,List.getD_cons_succ];simp only[Fv]
theorem JL(h:List Int)(hh:h.length=8)(s:List UInt8)(hs:s.length=64)(u:Unit):lM (h,(s,u))=some (comp h (ak s),()):=by
 have hb:(qa (ak s) 16).length=64:=mu _ _;unfold lM;rw[Io,JH h s hs,aa];dsimp only;rw[N8 _ hb,aa,Ho,aa];have e8:h=gw (OZ h):=(JJ h hh).symm;have hsc:(oc (ak s)).length=64:=vT _;have hr:=Hq (oc (ak s)) hsc (OZ h) ((64:Int),()) () ();rw[←e8] at hr;rw[show yE (qa (ak s) 16) 48=oc (ak s) from rfl,hr,aa];dsimp only;generalize hm:gw (vU mw (oc (ak s)) (OZ h) 64)=m;have TQ:m.length=8:=by rw[←hm];rfl
 have:Loop (gI (h,(s,u))) ((0,()),(m,()))=some (((8:Int),()),(qb m h 8,())):=by
  refine de (f:=gI (h,(s,u))) 8 (fun i=>(((i:Int),()),(qb m h i,()))) (fun i hi=>?_) ?_
  ·have hl:(qb m h i).length=8:=by rw[sr,TQ]
   unfold gI;dsimp only;simp only[bB (show(i:Int)<8 by omega),af,bC (show(0:Int)≤i by omega) (show(i:Int)<8 by omega),dV (qb m h i) 0 (show i<(qb m h i).length by omega),dV h 0 (show i<h.length by omega),aa,dh,ck (show i<4611686018427387904 by omega),kH];rw[Ip m h i i (kS _)];rfl
  ·unfold gI;dsimp only;rw[aH (by omega),ag,dJ];rfl
 rw[this,aa];dsimp only;rw[JK m h TQ hh];unfold comp;rw[hm]
end Go.Ge
namespace Go.Ge
variable [Lp]
def H0:List Int:=[1779033703,3144134277,1013904242,2773480762,1359893119,2600822924,528734635,1541459225]
theorem JM:mg ()=some (H0,()):=rfl
theorem BO:pz ()=some (H0,()):=rfl
def qk(all:List UInt8):Nat→List Int
 | 0=>H0
 | k+1=>comp (qk all k) (ak ((all.drop (64*k)).take 64))
theorem qK(all:List UInt8)(k:Nat):(qk all k).length=8:=by
 induction k with
 | zero=>rfl
 | succ k ih=>simp only[qk];rw[Fy,ih]
theorem Iq(all more:List UInt8):∀k,64*k≤all.length→qk (all++more) k=qk all k:=by
 intro k;induction k with
 | zero=>intro _;rfl
 | succ k ih =>
   intro h;simp only[qk];rw[ih (by omega),Kp (by omega),O5 (by rw[ou];omega)]
abbrev uH:=(Bool×List Int×Unit)×List Int×Int×Unit
def Inv(st:uH)(all:List UInt8):Prop :=
 ∃wait,st=((decide (64≤all.length),(if 64≤all.length then qk all (all.length / 64) else eg 8),()),wait,(all.length:Int),())∧wait.length=64∧wait.take (all.length % 64)=ak (all.drop (64*(all.length / 64)))
def Me:uH:=((false,eg 8,()),eg 64,0,())
theorem SN:Inv Me []:=⟨eg 64,rfl,rfl,rfl⟩
theorem tO(a b:List UInt8):ak (a++b)=ak a++ak b:=by simp[ak]
theorem AH(a:List UInt8)(n:Nat):(ak a).take n=ak (a.take n):=by simp[ak,KN]
theorem gb(a:List UInt8):(ak a).length=a.length:=by simp[ak]
theorem mz(a b:Nat):gJ (a:Int) (b:Int)=((a % b:Nat):Int):=by
 unfold gJ;rw[Int.tmod_eq_emod_of_nonneg (by omega)];exact(Int.natCast_emod a b).symm
theorem Mf(q:W8)(st:uH)(h8:st.1.2.1.length=8):Loop (eP (kU q 64,())) ((0,()),(st,()))=some (((8:Int),()),(((st.1.1,qb st.1.2.1 (gw q) 8,st.1.2.2),st.2),())):=by
 obtain⟨⟨bg,h,u⟩,wn⟩:=st;dsimp only at h8⊢;refine de (f:=eP (kU q 64,())) 8 (fun i=>(((i:Int),()),(((bg,qb h (gw q) i,u),wn),()))) (fun i hi=>?_) ?_
 ·have hl:(qb h (gw q) i).length=8:=by rw[sr,h8]
  have e8:([(kU q 64).1,(kU q 64).2.1,(kU q 64).2.2.1,(kU q 64).2.2.2.1,(kU q 64).2.2.2.2.1,(kU q 64).2.2.2.2.2.1,(kU q 64).2.2.2.2.2.2.1,(kU q 64).2.2.2.2.2.2.2.1]:List Int)=gw q:=rfl;unfold eP;dsimp only;rw[e8];have VE:(gw q).length=8:=rfl;simp only[bB (show(i:Int)<8 by omega),af,bC (show(0:Int)≤i by omega) (show(i:Int)<8 by omega),dV (qb h (gw q) i) 0 (show i<(qb h (gw q) i).length by omega),dV (gw q) 0 (show i<(gw q).length by omega),aa,dh,ck (show i<4611686018427387904 by omega),kH];rw[Ip h (gw q) i i (kS _)];rfl
 ·unfold eP;dsimp only;rw[aH (by omega),ag,dJ];rfl
theorem Mg(part all:List UInt8)(st:uH)(hp:part≠[])(hI:Inv st all)(hb:all.length+part.length<1152921504606846976) :
  ∃st',dM ((part,()),(st,()))=some (.inl ((part.drop (64-all.length % 64),()),(st',())))∧Inv st' (all++part.take (64-all.length % 64)):=by
 obtain⟨wait,rfl,hw,ht⟩:=hI;generalize hN:all.length=N at *;have gi:N % 64<64:=CK _ (by decide);have Vd:gJ (N:Int) 64=((N % 64:Nat):Int):=mz N 64;have em:iw (ak part) (minus (64:Int) ((N % 64:Nat):Int))=ak (part.take (64-N % 64)):=by
  unfold iw minus;rw[show((64:Int)-((N % 64:Nat):Int)).toNat=64-N % 64 by omega,AH]
 generalize hk:(part.take (64-N % 64)).length=k;have hk':k=min (64-N % 64) part.length:=by rw[←hk,iA]
 have hkp:0<k:=by
  have:0<part.length:=by cases part with|nil=>exact absurd rfl hp|cons=>simp
  omega
 have SO:len (ak (part.take (64-N % 64)))=(k:Int):=by unfold len;rw[gb,hk]
 have SP:bA .i64 ((N % 64:Nat):Int) (k:Int)=((N % 64+k:Nat):Int):=by rw[iV (by omega) (by omega)];omega
 have Rf:bA .i64 (N:Int) (k:Int)=((N+k:Nat):Int):=by rw[iV (by omega) (by omega)];omega
 have SQ:inside ((N % 64:Nat):Int) 64 64=true:=cM (by omega) (by omega) (by omega);have SR:inside (k:Int) (len part) (len part)=true:=cM (by omega) (by unfold len;omega) (by omega);have SS:sub part (k:Int) (minus (len part) (k:Int))=part.drop k:=by
  unfold sub minus len;rw[D7,CE (by rw[ou];omega)]
 have TR:part.drop k=part.drop (64-N % 64):=by
  rcases Nat.le_total (64-N % 64) part.length with h|h
  ·rw[show k=64-N % 64 by omega]
  ·rw[Kr (by omega),Kr h]
 have Rg:over wait ((N % 64:Nat):Int) (ak (part.take (64-N % 64)))=ak (all.drop (64*(N / 64))++part.take (64-N % 64))++wait.drop (N % 64+k):=by
  unfold over;rw[D7,ht,gb,hk,tO]
 have hne:nt (ig part [])=true:=by
  unfold ig nt;cases part with
  | nil=>exact absurd rfl hp
  | cons x r=>rfl
 have hall:(all++part.take (64-N % 64)).length=N+k:=by rw[pM,hN,hk]
 have Sa:64*(N / 64)+N % 64=N:=KL N 64;have Ir:(all.drop (64*(N / 64))).length=N % 64:=by rw[ou];omega
 have RO:(ak (all.drop (64*(N / 64))++part.take (64-N % 64))++wait.drop (N % 64+k)).length=64:=by
  rw[pM,gb,pM,Ir,hk,ou];omega
 unfold dM;dsimp only;simp only[hne,af,aF (show(64:Int)≠0 by decide),ag,Vd,SQ,em,SO,SR,SP,Rf,SS,Rg];by_cases hfull:N % 64+k=64
 ·
  have hw0:wait.drop (N % 64+k)=[]:=by rw[Kr (by omega)]
  simp only[br (show((N % 64+k:Nat):Int)=64 by omega),af,hw0,A9] at RO⊢;generalize I4:ak (all.drop (64*(N / 64))++part.take (64-N % 64))=blk at *;have hq:(N+k) / 64=N / 64+1:=by omega
  have hm0:(N+k) % 64=0:=by omega
  have Rh:((all++part.take (64-N % 64)).drop (64*(N / 64))).take 64=all.drop (64*(N / 64))++part.take (64-N % 64):=by
   rw[Kp (by omega),CE (by rw[pM,Ir,hk];omega)]
  have hh:∃Ve:Bool,Ve=true∧(ah (aO (nt (decide (64≤N))) (ah (mg ()) fun y2:List Int×Unit=>some ((),(((true,y2.1,()),(blk,((N+k:Nat):Int),())),()))) (some ((),(((decide (64≤N),(if 64≤N then qk all (N / 64) else eg 8),()),(blk,((N+k:Nat):Int),())),())))) fun y:Unit×uH×Unit=>some y)=some ((),(((true,qk all (N / 64),()),(blk,((N+k:Nat):Int),())),())):=by
   refine⟨true,rfl,?_⟩;by_cases ED:64≤N
   ·simp only[ED,F1,jr];rfl
   ·have:N / 64=0:=by omega
    simp only[ED,HT,wD,this,JM];rfl
  obtain⟨_,_,hh⟩:=hh;have Vf:(aO (nt (decide (64≤N))) (ah (mg ()) fun y2:List Int×Unit=>some ((),(((true,y2.1,()),(blk,((N+k:Nat):Int),())),()))) (some ((),(((decide (64≤N),(if 64≤N then qk all (N / 64) else eg 8),()),(blk,((N+k:Nat):Int),())),()))):Option (Unit×uH×Unit))=some ((),(((true,qk all (N / 64),()),(blk,((N+k:Nat):Int),())),())):=by
   have:∀o:Option (Unit×uH×Unit),(ah o fun y=>some y)=o:=by intro o;cases o<;>rfl
   exact(this _).symm.trans hh
  rw[Vf,aa,JI,aa,DK blk RO,aa];dsimp only;have Vg:=qK all (N / 64);have i0:=iW (qk all (N / 64)) 0 (i:=0) (k:=0) rfl (by omega);have i1:=iW (qk all (N / 64)) 0 (i:=1) (k:=1) rfl (by omega);have i2:=iW (qk all (N / 64)) 0 (i:=2) (k:=2) rfl (by omega);have i3:=iW (qk all (N / 64)) 0 (i:=3) (k:=3) rfl (by omega);have i4:=iW (qk all (N / 64)) 0 (i:=4) (k:=4) rfl (by omega);have i5:=iW (qk all (N / 64)) 0 (i:=5) (k:=5) rfl (by omega);have i6:=iW (qk all (N / 64)) 0 (i:=6) (k:=6) rfl (by omega);have i7:=iW (qk all (N / 64)) 0 (i:=7) (k:=7) rfl (by omega);have w0:within 0 8=true:=by decide
  have w1:within 1 8=true:=by decide
  have w2:within 2 8=true:=by decide
  have w3:within 3 8=true:=by decide
  have w4:within 4 8=true:=by decide
  have w5:within 5 8=true:=by decide
  have w6:within 6 8=true:=by decide
  have w7:within 7 8=true:=by decide
  simp only[w0,w1,w2,w3,w4,w5,w6,w7,af,i0,i1,i2,i3,i4,i5,i6,i7,aa];have hr:=Hp (oc blk) (vT blk) (OZ (qk all (N / 64))) () ();rw[show((qk all (N / 64)).getD 0 0,(qk all (N / 64)).getD 1 0,(qk all (N / 64)).getD 2 0,(qk all (N / 64)).getD 3 0,(qk all (N / 64)).getD 4 0,(qk all (N / 64)).getD 5 0,(qk all (N / 64)).getD 6 0,(qk all (N / 64)).getD 7 0,(0:Int),())=kU (OZ (qk all (N / 64))) 0 from rfl,hr,aa];rw[Mf _ ((true,qk all (N / 64),()),(blk,((N+k:Nat):Int),())) Vg,aa,aa,dh];dsimp only;refine⟨_,by rw[TR],?_⟩;refine⟨blk,?_,RO,?_⟩
  ·rw[hall];have ED:64≤N+k:=by omega
   simp only[ED,F1,jr];have Vh:qk (all++part.take (64-N % 64)) ((N+k) / 64)=qb (qk all (N / 64)) (gw (vU mw (oc blk) (OZ (qk all (N / 64))) 64)) 8:=by
    rw[hq];simp only[qk];rw[Iq all _ _ (by omega),Rh,I4];rfl
   rw[Vh]
  ·rw[hall,hm0,hq,Ec,Kr (by omega)];rfl
 ·have hnf:N % 64+k<64:=by omega
  simp only[aF (show((N % 64+k:Nat):Int)≠64 by omega),ag,aa,dh];refine⟨_,by rw[TR],?_⟩;have hq:(N+k) / 64=N / 64:=by omega
  have hm0:(N+k) % 64=N % 64+k:=by omega
  refine⟨_,?_,RO,?_⟩
  ·rw[hall,hq];by_cases ED:64≤N
   ·have Nw:64≤N+k:=by omega
    simp only[ED,Nw,F1,jr];rw[Iq all _ _ (by omega)]
   ·have Nw:¬64≤N+k:=by omega
    simp only[ED,Nw,HT,wD]
  ·rw[hall,hm0,hq,O5 (by rw[gb,pM,Ir,hk];omega),CE (by rw[gb,pM,Ir,hk];omega),Kp (by omega)]
end Go.Ge
namespace Go.Ge
variable [Lp]
theorem Mh:∀(n:Nat) (part all:List UInt8) (st:uH),part.length≤n→Inv st all→all.length+part.length<1152921504606846976 →
  ∃st',Loop dM ((part,()),(st,()))=some (([],()),(st',()))∧Inv st' (all++part):=by
 intro n;induction n with
 | zero =>
   intro part all st hn hI hb;obtain rfl:part=[]:=Kq (by omega);refine⟨st,?_,by rw[A9];exact hI⟩;rw[cL];have:dM (([],()),(st,()))=some (.inr (([],()),(st,()))):=by
    unfold dM;dsimp only;rw[show nt (ig [] [])=false from rfl,ag,dJ]
   rw[this];rfl
 | succ n ih =>
   intro part all st hn hI hb;by_cases hp:part=[]
   ·subst hp;exact ih [] all st (by simp) hI hb
   ·obtain⟨M4,h1,h2⟩:=Mg part all st hp hI hb;have hlt:all.length % 64<64:=CK _ (by decide);have hpl:0<part.length:=by cases part with|nil=>exact absurd rfl hp|cons=>simp
    obtain⟨st',h3,h4⟩:=ih (part.drop (64-all.length % 64)) _ M4 (by rw[ou];omega) h2 (by rw[pM,iA,ou];omega);refine⟨st',?_,by rw[nH,A6] at h4;exact h4⟩;rw[cL,h1];exact h3
theorem yZ(part all:List UInt8)(st:uH)(hI:Inv st all)(hb:all.length+part.length<1152921504606846976):∃st',dX ((part,()),(st,()))=some ((),(st',()))∧Inv st' (all++part):=by
 obtain⟨st',h1,h2⟩:=Mh part.length part all st (kS _) hI hb;refine⟨st',?_,h2⟩;unfold dX;dsimp only;rw[h1,aa]
def zs(n:Nat):Nat:=(119-n % 64) % 64
def cg(n k:Nat):Int:=kP .u8 (ow .u64 (iB .u64 (kP .u64 (n:Int)) 8) ((8*k:Nat):Int))
def xh(n:Nat):List Int:=[cg n 7,cg n 6,cg n 5,cg n 4,cg n 3,cg n 2,cg n 1,cg n 0]
def pad(s:List UInt8):List UInt8:=s++[128]++List.replicate (zs s.length) 0++aG (xh s.length)
theorem uI(s:List UInt8):(pad s).length=s.length+1+zs s.length+8:=by simp[pad,aG,xh];omega
theorem Is(s:List UInt8):(pad s).length % 64=0:=by rw[uI];unfold zs;omega
theorem gV(s:List UInt8):aG (ak s)=s:=by
 unfold aG ak;rw[Ef]
 conv=>rhs;rw[←List.map_id s]
 apply FX;intro x _;simp
theorem pI(a b:List Int):aG (a++b)=aG a++aG b:=by simp[aG]
theorem Fz(s:List UInt8)(hn:s.length≤1048576):Loop gG (((),()),(ak s++[128],()))=some (((),()),(ak s++[128]++eg (zs s.length),())):=by
 have hz:zs s.length<64:=CK _ (by decide);have:=de (f:=gG) (r:=(((),()),(ak s++[128]++eg (zs s.length),()))) (zs s.length) (fun j=>(((),()),(ak s++[128]++eg j,()))) (fun j hj=>by
  unfold gG;dsimp only;have el:len (ak s++[128]++eg j)=((s.length+1+j:Nat):Int):=by unfold len;simp[ak,eg];omega
  rw[aF (by decide),ag,el,show((64:Int))=((64:Nat):Int) from rfl,mz,aF (by unfold zs at hj;omega),show nt false=true from rfl,af,dP (by simp only[plus,len,Na];omega),af,dh]
  congr 4
  show ak s++[128]++eg j++[0]=_
  rw[nH,show eg j++[0]=eg (j+1) from by simp[eg,List.replicate_succ']])
  (by
   unfold gG;dsimp only;have el:len (ak s++[128]++eg (zs s.length))=((s.length+1+zs s.length:Nat):Int):=by unfold len;simp[ak,eg];omega
   rw[aF (by decide),ag,el,show((64:Int))=((64:Nat):Int) from rfl,mz,br (by unfold zs;omega),show nt true=false from rfl,ag,dJ])
 have h0:ak s++[128]++eg 0=ak s++[128]:=by simp[eg]
 simp only[h0] at this;exact this
theorem JN(s:List UInt8)(b:List Int)(hn:s.length≤1048576)(hb:b.length≤2097152)(u:Unit):Loop (cD (s,u)) (((),(7,())),(b,()))=some (((),(-1,())),(b++xh s.length,())):=by
 have step:∀(k:Nat) (c:List Int),k≤7→c.length≤2097160→cD (s,u) (((),((k:Int),())),(c,()))=some (.inl (((),((k:Int)-1,())),(c++[cg s.length k],()))):=by
  intro k c hk hc;unfold cD;dsimp only;have e8:iB .i64 8 (k:Int)=((8*k:Nat):Int):=by rw[vS (by omega) (by omega)];omega
  rw[kG (by omega),af,e8,aH (by omega),ag,dP (by simp only[plus,len,Na];omega),af,dI (by omega) (by omega),dh];rfl
 have hend:∀c:List Int,cD (s,u) (((),((-1:Int),())),(c,()))=some (.inr (((),(-1,())),(c,()))):=by
  intro c;unfold cD;dsimp only;rw[p8 (by decide),ag,dJ]
 have L:∀(k:Nat) (c:List Int),k≤7→c.length≤2097160→Loop (cD (s,u)) (((),((k:Int),())),(c,()))=Loop (cD (s,u)) (((),((k:Int)-1,())),(c++[cg s.length k],())):=by
  intro k c hk hc;rw[cL,step k c hk hc];rfl
 have l7:=L 7 b (by omega) (by omega);have l6:=L 6 (b++[cg s.length 7]) (by omega) (by simp;omega);have l5:=L 5 (b++[cg s.length 7]++[cg s.length 6]) (by omega) (by simp;omega);have l4:=L 4 (b++[cg s.length 7]++[cg s.length 6]++[cg s.length 5]) (by omega) (by simp;omega);have l3:=L 3 (b++[cg s.length 7]++[cg s.length 6]++[cg s.length 5]++[cg s.length 4]) (by omega) (by simp;omega);have l2:=L 2 (b++[cg s.length 7]++[cg s.length 6]++[cg s.length 5]++[cg s.length 4]++[cg s.length 3]) (by omega) (by simp;omega);have l1:=L 1 (b++[cg s.length 7]++[cg s.length 6]++[cg s.length 5]++[cg s.length 4]++[cg s.length 3]++[cg s.length 2]) (by omega) (by simp;omega);have l0:=L 0 (b++[cg s.length 7]++[cg s.length 6]++[cg s.length 5]++[cg s.length 4]++[cg s.length 3]++[cg s.length 2]++[cg s.length 1]) (by omega) (by simp;omega);refine l7.trans (l6.trans (l5.trans (l4.trans (l3.trans (l2.trans (l1.trans (l0.trans ?_)))))));have:b++[cg s.length 7]++[cg s.length 6]++[cg s.length 5]++[cg s.length 4]++[cg s.length 3]++[cg s.length 2]++[cg s.length 1]++[cg s.length 0]=b++xh s.length:=by simp[xh]
 rw[this];show Loop (cD (s,u)) (((),(-1,())),(b++xh s.length,()))=_
 rw[cL,hend];rfl
theorem JO(s:List UInt8)(hn:s.length≤1048576):lK (s,())=some (pad s,()):=by
 have hz:zs s.length<64:=CK _ (by decide);unfold lK;dsimp only;rw[dP (by unfold len;omega),af,dP (by simp only[plus,len,Na,gb];omega),af,show app (ak s) ([128]:List Int)=ak s++[128] from rfl,Fz s hn,aa];dsimp only;rw[JN s _ hn (by simp[gb,eg];omega),aa];dsimp only;rw[pI,pI,pI,gV];unfold pad;have:aG (eg (zs s.length))=List.replicate (zs s.length) 0:=by unfold aG eg;rw[List.map_replicate];rfl
 rw[this];rfl
theorem Hr(t:List UInt8)(hm:t.length % 64=0)(hn:t.length≤2097152)(u:Unit):Loop (iN (t,u)) ((0,()),(H0,()))=some (((t.length:Int),()),(qk t (t.length / 64),())):=by
 have:=de (f:=iN (t,u)) (r:=(((t.length:Int),()),(qk t (t.length / 64),()))) (t.length / 64) (fun j=>((((64*j:Nat):Int),()),(qk t j,()))) (fun j hj=>by
  unfold iN;dsimp only;have hjl:64*j+64≤t.length:=by omega
  rw[iV (by omega) (by omega),kG (by unfold len;omega),af,cM (by omega) (by omega) (by unfold len;omega),af];have hs:sub t ((64*j:Nat):Int) (minus (((64*j:Nat):Int)+64) ((64*j:Nat):Int))=(t.drop (64*j)).take 64:=by
   unfold sub minus;rw[D7,show(((64*j:Nat):Int)+64-((64*j:Nat):Int)).toNat=64 by omega]
  rw[hs,JL _ (qK t j) _ (by rw[iA,ou];omega),aa,dh];rw[show(((64*j:Nat):Int)+64)=((64*(j+1):Nat):Int) by omega];rfl)
  (by
   unfold iN;dsimp only;have hjl:64*(t.length / 64)=t.length:=by omega
   rw[hjl,iV (by omega) (by omega),p8 (by unfold len;omega),ag,dJ])
 exact this
def SU(h:List Int)(i:Nat):Int:=kP .u8 (ow .u32 (h.getD (i / 4) 0) ((24-8*(i % 4):Nat):Int))
def FA(h:List Int):Nat→List Int
 | 0=>eg 32
 | i+1=>(FA h i).set i (SU h i)
theorem su(h:List Int)(i:Nat):(FA h i).length=32:=by
 induction i with
 | zero=>rfl
 | succ i ih=>simp[FA,ih]
theorem It:([0,0,0,0,0,0,0,0,0,0,0,0,0,0,0,0,0,0,0,0,0,0,0,0,0,0,0,0,0,0,0,0]:List Int)=eg 32:=rfl
theorem Mi{a:Nat}(h:a<4611686018427387904):ug .i64 (a:Int) 4=((a / 4:Nat):Int):=by
 have e:((a:Int).tdiv 4)=((a / 4:Nat):Int):=by rw[Int.tdiv_eq_ediv_of_nonneg (by omega)];exact(Int.natCast_ediv a 4).symm
 unfold ug;rw[e];have:=Ik (a:=((a / 4:Nat):Int)) (by omega) (by omega);unfold kP at this;exact this
theorem FB{h o:List Int}(hh:h.length=8)(ho:o.length=32)(i:Nat)(hi:i<32):ug .i64 (i:Int) 4=((i / 4:Nat):Int)∧dn .i64 24 (iB .i64 8 (gJ (i:Int) 4))=((24-8*(i % 4):Nat):Int):=by
 refine⟨Mi (by omega),?_⟩;rw[show(4:Int)=((4:Nat):Int) from rfl,mz,vS (by omega) (by omega),dI (by omega) (by omega)];omega
theorem N9(h:List Int)(hh:h.length=8)(q:Int×Unit)(u:Unit):Loop (iO (q,(h,u))) ((0,()),(eg 32,()))=some (((32:Int),()),(FA h 32,())):=by
 refine de (f:=iO (q,(h,u))) 32 (fun i=>(((i:Int),()),(FA h i,()))) (fun i hi=>?_) ?_
 ·have hl:=su h i;obtain⟨e1,e2⟩:=FB hh hl i hi;unfold iO;dsimp only;rw[bB (by omega),af,aF (by decide),ag,e1,bC (by omega) (by omega),af,dV h 0 (by omega),aa,ag,e2,aH (by omega),ag,bC (by omega) (by omega),af,
   dV _ 0 (by omega),aa,aa,aa,dh,ck (by omega),kH]
  rfl
 ·unfold iO;dsimp only;rw[aH (by omega),ag,dJ];rfl
theorem Oa(h w:List Int)(hh:h.length=8)(bg:Bool)(n:Int)(a b c d e:Unit)(r:Unit):Loop (eR (r,(((bg,h,a),w,n,b),c))) ((0,()),(eg 32,()))=some (((32:Int),()),(FA h 32,())):=by
 refine de (f:=eR (r,(((bg,h,a),w,n,b),c))) 32 (fun i=>(((i:Int),()),(FA h i,()))) (fun i hi=>?_) ?_
 ·have hl:=su h i;obtain⟨e1,e2⟩:=FB hh hl i hi;unfold eR;dsimp only;rw[bB (by omega),af,aF (by decide),ag,e1,bC (by omega) (by omega),af,dV h 0 (by omega),aa,ag,e2,aH (by omega),ag,bC (by omega) (by omega),af,
   dV _ 0 (by omega),aa,aa,aa,dh,ck (by omega),kH]
  rfl
 ·unfold eR;dsimp only;rw[aH (by omega),ag,dJ];rfl
def Kn(s:List UInt8):List Int:=FA (qk (pad s) ((pad s).length / 64)) 32
theorem jJ(s:List UInt8):(Kn s).length=32:=su _ _
theorem Hs(s:List UInt8)(hn:s.length≤1048576):oI (s,())=some (Kn s,()):=by
 have hz:zs s.length<64:=CK _ (by decide);unfold oI;rw[BO,aa];dsimp only;rw[JO s hn,aa,Hr _ (Is s) (by rw[uI];omega),aa,It,N9 _ (qK _ _),aa];dsimp only[Kn]
theorem JP(s:List UInt8)(hn:s.length≤1152921504606840000)(st:uH)(hI:Inv st (s++[128])):∃st',Loop cI ((),(st,()))=some ((),(st',()))∧Inv st' (s++[128]++List.replicate (zs s.length) 0):=by
 have hz:zs s.length<64:=CK _ (by decide);have key:∀(m j:Nat) (st:uH),j+m=zs s.length→Inv st (s++[128]++List.replicate j 0)→∃st',Loop cI ((),(st,()))=some ((),(st',()))∧Inv st' (s++[128]++List.replicate (zs s.length) 0):=by
  intro m;induction m with
  | zero =>
    intro j st hj hI;obtain rfl:j=zs s.length:=by omega
    refine⟨st,?_,hI⟩;obtain⟨wait,rfl,h1,h2⟩:=hI;rw[cL];have:cI ((),(((decide (64≤(s++[128]++List.replicate (zs s.length) 0).length),(if 64≤(s++[128]++List.replicate (zs s.length) 0).length then qk (s++[128]++List.replicate (zs s.length) 0) ((s++[128]++List.replicate (zs s.length) 0).length / 64) else eg 8),()),wait,((s++[128]++List.replicate (zs s.length) 0).length:Int),()),()))=some (.inr ((),(((decide (64≤(s++[128]++List.replicate (zs s.length) 0).length),(if 64≤(s++[128]++List.replicate (zs s.length) 0).length then qk (s++[128]++List.replicate (zs s.length) 0) ((s++[128]++List.replicate (zs s.length) 0).length / 64) else eg 8),()),wait,((s++[128]++List.replicate (zs s.length) 0).length:Int),()),()))):=by
     have hl:(s++[128]++List.replicate (zs s.length) (0:UInt8)).length=s.length+1+zs s.length:=by simp;omega
     unfold cI;dsimp only;rw[aF (by decide),ag,hl,show((64:Int))=((64:Nat):Int) from rfl,mz,br (by unfold zs;omega),show nt true=false from rfl,ag,dJ]
    rw[this];rfl
  | succ m ih =>
    intro j st hj hI;obtain⟨M4,g1,g2⟩:=yZ [0] _ st hI (by simp;omega);obtain⟨st',k1,k2⟩:=ih (j+1) M4 (by omega) (by
     rw[nH,show List.replicate j (0:UInt8)++[0]=List.replicate (j+1) 0 from by rw[List.replicate_succ']] at g2;exact g2)
    refine⟨st',?_,k2⟩;rw[cL];have hn':st.2.2.1=((s.length+1+j:Nat):Int):=by
     obtain⟨wait,rfl,h1,h2⟩:=hI;simp;omega
    have:cI ((),(st,()))=some (.inl ((),(M4,()))):=by
     unfold cI;dsimp only;rw[aF (by decide),ag,hn',show((64:Int))=((64:Nat):Int) from rfl,mz,aF (by unfold zs at hj;omega),show nt false=true from rfl,af,g1,aa,dh]
    rw[this];exact k1
 exact key (zs s.length) 0 st (by omega) (by simpa using hI)
theorem Mj(n:Nat)(hn:n≤1152921504606840000)(st:uH)(hst:st.2.2.1=(n:Int))(u v:Unit):Loop (dN (u,(st,v))) ((0,()),(eg 8,()))=some (((8:Int),()),(xh n,())):=by
 obtain⟨hw,wt,m,q⟩:=st;dsimp only at hst;subst hst;have step:∀(k:Nat) (c:List Int),k<8→c.length=8→dN (u,((hw,wt,(n:Int),q),v)) (((k:Int),()),(c,()))=some (.inl ((((k+1:Nat):Int),()),(c.set (7-k) (cg n k),()))):=by
  intro k c hk hc;unfold dN;dsimp only;have e8:iB .i64 8 (k:Int)=((8*k:Nat):Int):=by rw[vS (by omega) (by omega)];omega
  have e7:dn .i64 7 (k:Int)=((7-k:Nat):Int):=by rw[dI (by omega) (by omega)];omega
  rw[bB (by omega),af,e8,aH (by omega),ag,e7,bC (by omega) (by omega),af,dV c 0 (by omega),aa,aa,aa,dh,ck (by omega),kH];rfl
 have:=de (f:=dN (u,((hw,wt,(n:Int),q),v))) (r:=(((8:Int),()),(xh n,()))) 8 (fun k=>(((k:Int),()),((match k with
  | 0=>eg 8
  | 1=>[0,0,0,0,0,0,0,cg n 0]
  | 2=>[0,0,0,0,0,0,cg n 1,cg n 0]
  | 3=>[0,0,0,0,0,cg n 2,cg n 1,cg n 0]
  | 4=>[0,0,0,0,cg n 3,cg n 2,cg n 1,cg n 0]
  | 5=>[0,0,0,cg n 4,cg n 3,cg n 2,cg n 1,cg n 0]
  | 6=>[0,0,cg n 5,cg n 4,cg n 3,cg n 2,cg n 1,cg n 0]
  | 7=>[0,cg n 6,cg n 5,cg n 4,cg n 3,cg n 2,cg n 1,cg n 0]
  | _=>xh n:List Int),()))) (fun k hk=>by
    rcases(by omega:k=0∨k=1∨k=2∨k=3∨k=4∨k=5∨k=6∨k=7) with rfl|rfl|rfl|rfl|rfl|rfl|rfl|rfl<;>exact(step _ _ (by omega) rfl).trans rfl)
  (by
   unfold dN;dsimp only;rw[aH (by omega),ag,dJ];rfl)
 exact this
theorem Ob(s:List UInt8)(hn:s.length≤1048576)(st:uH)(hI:Inv st s)(u v:Unit):jf (u,(st,v))=some ((Kn s,()),(st,())):=by
 have hz:zs s.length<64:=CK _ (by decide);have hst:st.2.2.1=(s.length:Int):=by obtain⟨wait,rfl,_⟩:=hI;rfl
 obtain⟨M4,a1,a2⟩:=yZ [128] s st hI (by simp;omega);obtain⟨SV,b1,b2⟩:=JP s (by omega) M4 a2;obtain⟨Vi,c1,c2⟩:=yZ (aG (xh s.length)) _ SV b2 (by simp[aG,xh];omega);unfold jf;dsimp only;rw[It,show aG ([128]:List Int)=[128] from rfl,a1,aa];dsimp only;rw[b1,aa];dsimp only;rw[show([0,0,0,0,0,0,0,0]:List Int)=eg 8 from rfl,Mj s.length (by omega) st hst,aa,cM (by decide) (by decide) (by decide),af];dsimp only;rw[show sub (xh s.length) 0 (minus 8 0)=xh s.length from rfl,c1,aa];have NL:Inv Vi (pad s):=c2;obtain⟨wait,rfl,h1,h2⟩:=NL;have ED:64≤(pad s).length:=by have:=Is s;rw[uI] at this⊢;omega
 simp only[ED,F1,jr];rw[Oa _ _ (qK _ _) _ _ () () () () () (),aa];dsimp only[Kn]
theorem Ht(s:List UInt8)(hn:s.length≤1048576):sZ (s,())=some (Kn s,()):=by
 obtain⟨M4,a1,a2⟩:=yZ s [] Me SN (by simp;omega);unfold sZ;dsimp only;rw[show((false,([0,0,0,0,0,0,0,0]:List Int),()),([0,0,0,0,0,0,0,0,0,0,0,0,0,0,0,0,0,0,0,0,0,0,0,0,0,0,0,0,0,0,0,0,0,0,0,0,0,0,0,0,0,0,0,0,0,0,0,0,0,0,0,0,0,0,0,0,0,0,0,0,0,0,0,0]:List Int),(0:Int),())=Me from rfl,a1,aa];dsimp only;rw[Ob s hn M4 (by simpa using a2),aa]
end Go.Ge
namespace Go.Ge
variable [Lp]
abbrev TS:=(Bool×List UInt8×Int×Unit)×uH×uH×Unit
end Go.Ge
namespace Go.Ge
variable [Lp]
def BP:List UInt8:=[48,49,50,51,52,53,54,55,56,57,97,98,99,100,101,102]
def hx(n:Nat):UInt8:=BP.getD n 0
def nq:List UInt8→List UInt8
 | []=>[]
 | b::r=>hx (b.toNat / 16)::hx (b.toNat % 16)::nq r
theorem mA(l:List UInt8):(nq l).length=2*l.length:=by
 induction l with
 | nil=>rfl
 | cons b r ih=>simp only[nq,kV,ih];omega
theorem Mk(a b:List UInt8):nq (a++b)=nq a++nq b:=by
 induction a with
 | nil=>rfl
 | cons x r ih=>simp only[D8,nq,ih]
theorem Oc:∀n:Fin 256,idx BP (ow .u8 (n.val:Int) 4)=some (hx (n.val / 16)):=by decide +kernel
theorem Od:∀n:Fin 256,idx BP (ja .u8 (n.val:Int) 15)=some (hx (n.val % 16)):=by decide +kernel
theorem PR(b:UInt8):idx BP (ow .u8 (u8 b) 4)=some (hx (b.toNat / 16)):=Oc ⟨b.toNat,b.toNat_lt⟩
theorem PS(b:UInt8):idx BP (ja .u8 (u8 b) 15)=some (hx (b.toNat % 16)):=Od ⟨b.toNat,b.toNat_lt⟩
theorem JQ(s:List UInt8){k:Nat}(h:k<s.length):idx (ak s) (k:Int)=some (u8 s[k]):=by
 rw[vN];simp[ak,u8,h]
theorem DL(s:List UInt8){k:Nat}(h:k<s.length):idx s (k:Int)=some s[k]:=by
 rw[vN];simp[h]
theorem xj(s:List UInt8):len (ak s)=(s.length:Int):=by simp[len,ak]
theorem DM(s:List UInt8){k:Nat}(h:k<s.length):s.take (k+1)=s.take k++[s[k]]:=by
 rw[List.take_add_one,qV h];rfl
theorem Iu(s:List UInt8){k:Nat}(h:k<s.length):ak (nq (s.take (k+1)))=(ak (nq (s.take k))++[u8 (hx (s[k].toNat / 16))])++[u8 (hx (s[k].toNat % 16))]:=by
 rw[DM s h,Mk,tO,nH];rfl
theorem Ml(s:List UInt8)(hs:s.length≤1048576){k:Nat}(h:k<s.length)(x y:Int) :
  fits (plus (len (ak (nq (s.take k)))) (len [x]))=true∧fits (plus (len (ak (nq (s.take k))++[x])) (len [y]))=true:=by
 constructor
 ·apply dP;rw[xj,mA];simp only[iA,plus,len,kV,oX];omega
 ·apply dP;have:(ak (nq (s.take k))++[x]).length=2*min k s.length+1:=by
   rw[pM,gb,mA,iA];rfl
  simp only[plus,len,this,kV,oX];omega
theorem Oe(s:List UInt8)(hs:s.length≤1048576):nc (s,())=some (nq s,()):=by
 unfold nc;dsimp only;rw[dP (by simp only[len];omega),af];have key:Loop (gT (s,())) ((0,()),(((),((),())),([],())))=some (((s.length:Int),()),(((),((),())),(ak (nq s),()))):=by
  have:=de (f:=gT (s,())) (r:=(((s.length:Int),()),(((),((),())),(ak (nq s),())))) s.length (fun k=>(((k:Int),()),(((),((),())),(ak (nq (s.take k)),())))) (fun k hk=>by
   unfold gT;dsimp only;obtain⟨f1,f2⟩:=Ml s hs hk (u8 (hx (s[k].toNat / 16))) (u8 (hx (s[k].toNat % 16)));rw[xj,bB (by omega),af,bC (by omega) (by omega),af,JQ s hk,aa,aH (by decide),ag];rw[show([48,49,50,51,52,53,54,55,56,57,97,98,99,100,101,102]:List UInt8)=BP from rfl,PR,aa,f1,af,PS,aa];unfold app;rw[f2,af,dh,ck (by omega),Iu s hk]) (by
   unfold gT;dsimp only;rw[xj,aH (by omega),ag,dJ,HN])
  exact this
 rw[key,aa];dsimp only;rw[gV]
theorem SW:∀n:Fin 16,ia ((n.val:Int),())=some (u8 (hx n.val),()):=by decide +kernel
theorem za{n:Nat}(h:n<16):ia ((n:Int),())=some (u8 (hx n),()):=SW ⟨n,h⟩
theorem Mm:∀n:Fin 256,ug .i64 (kP .i64 (n.val:Int)) 16=((n.val / 16:Nat):Int):=by decide +kernel
theorem Mn:∀n:Fin 256,gJ (kP .i64 (n.val:Int)) 16=((n.val % 16:Nat):Int):=by decide +kernel
theorem PT(b:UInt8):ug .i64 (kP .i64 (u8 b)) 16=((b.toNat / 16:Nat):Int):=Mm ⟨b.toNat,b.toNat_lt⟩
theorem PU(b:UInt8):gJ (kP .i64 (u8 b)) 16=((b.toNat % 16:Nat):Int):=Mn ⟨b.toNat,b.toNat_lt⟩
theorem Hu(s:List UInt8)(hs:s.length≤1048576):oJ (s,())=some (nq s,()):=by
 unfold oJ;have key:Loop (iQ (s,())) (((),(0,())),([],()))=some (((),((s.length:Int),())),(ak (nq s),())):=by
  have:=de (f:=iQ (s,())) (r:=(((),((s.length:Int),())),(ak (nq s),()))) s.length (fun k=>(((),((k:Int),())),(ak (nq (s.take k)),()))) (fun k hk=>by
   unfold iQ;dsimp only;obtain⟨f1,f2⟩:=Ml s hs hk (u8 (hx (s[k].toNat / 16))) (u8 (hx (s[k].toNat % 16)));have hb:=s[k].toNat_lt;rw[show len s=(s.length:Int) from rfl,bB (by omega),af,DL s hk,aa,aF (by decide),ag,PT,za (by omega),aa];dsimp only;rw[f1,af,aa,ag,PU,za (by omega),aa];dsimp only;unfold app;rw[f2,af,dh,ck (by omega),Iu s hk]) (by
   unfold iQ;dsimp only;rw[show len s=(s.length:Int) from rfl,aH (by omega),ag,dJ,HN])
  exact this
 rw[key,aa];dsimp only;rw[gV]
end Go.Ge
namespace Go.Ge
variable [Lp]
def hv(c:UInt8):Int:=Lib.indexByte BP c
theorem Vj:∀n:Fin 256,(hv (UInt8.ofNat n.val)=-1∧∀j:Fin 16,hx j.val≠UInt8.ofNat n.val)∨∃j:Fin 16,hv (UInt8.ofNat n.val)=(j.val:Int)∧hx j.val=UInt8.ofNat n.val∧∀i:Fin 16,i.val<j.val→hx i.val≠UInt8.ofNat n.val:=by decide +kernel
theorem sw(c:UInt8):(hv c=-1∧∀j:Nat,j<16→hx j≠c)∨∃j:Nat,j<16∧hv c=(j:Int)∧hx j=c∧∀i:Nat,i<j→hx i≠c:=by
 have h:=Vj ⟨c.toNat,c.toNat_lt⟩;have e:UInt8.ofNat c.toNat=c:=by simp
 simp only[e] at h;rcases h with ⟨h1,h2⟩|⟨j,h1,h2,h3⟩
 ·exact .inl ⟨h1,fun j hj=>h2 ⟨j,hj⟩⟩
 ·exact .inr ⟨j.val,j.isLt,h1,h2,fun i hi=>h3 ⟨i,Nat.lt_trans hi j.isLt⟩ hi⟩
theorem O0:∀n:Fin 16,hv (hx n.val)=(n.val:Int):=by decide +kernel
theorem PV(c:UInt8):(show Int from u8 c).toNat.toUInt8=c:=by simp[u8]
theorem Cv(c:UInt8):eS (BP,(u8 c,()))=some (hv c,()):=by
 have e:cl (BP,(u8 c,()))=some (hv c,()):=by
  unfold cl hv;rw[PV];rfl
 unfold eS;dsimp only;rw[e];rfl
theorem PW{a b:UInt8}(h:u8 a=u8 b):a=b:=by
 have:a.toNat=b.toNat:=by unfold u8 at h;omega
 exact UInt8.toNat_inj.1 this
theorem Cw(c:UInt8):jy (u8 c,())=some (hv c,()):=by
 unfold jy;have step:∀(r k:Nat),k<16→hx k≠c→cE (u8 c,()) (((r:Int),((k:Int),())),())=some (.inl (((r:Int),(((k+1:Nat):Int),())),())):=fun r k hk hne=>by
  unfold cE;dsimp only;rw[bB (by omega),af,za hk,aa,aF (fun e=>hne (PW e)),ag,ck (by omega)]
 rcases sw c with ⟨h1,h2⟩|⟨j,hj,h1,h2,h3⟩
 ·have:=de (f:=cE (u8 c,())) (r:=(0,(((0:Nat):Int),(((16:Nat):Int),())),())) 16 (fun k=>((((0:Nat):Int),((k:Int),())),())) (fun k hk=>step 0 k hk (h2 k hk)) (by
   unfold cE;dsimp only;rw[aH (by decide),ag])
  rw[show Loop (cE (u8 c,())) ((0,(0,())),())=_ from this,aa];dsimp only;rw[show uQ 0 0=true from rfl,af,h1]
 ·have:=de (f:=cE (u8 c,())) (r:=(1,((j:Int),((j:Int),())),())) j (fun k=>((((0:Nat):Int),((k:Int),())),())) (fun k hk=>step 0 k (by omega) (h3 k hk)) (by
   unfold cE;dsimp only;rw[bB (by omega),af,za hj,aa,br (by rw[h2]),af])
  rw[show Loop (cE (u8 c,())) ((0,(0,())),())=_ from this,aa];dsimp only;rw[show uQ 1 0=false from rfl,ag,h1]
def fL:List UInt8→Option (List UInt8)
 | []=>some []
 | [_]=>none
 | a::b::r=>if hv a<0∨hv b<0 then none else(fL r).map (UInt8.ofNat (16*(hv a).toNat+(hv b).toNat)::·)
theorem Ri:∀(i j:Fin 16),kP .u8 (pO .i64 (iC .i64 (i.val:Int) 4) (j.val:Int))=u8 (UInt8.ofNat (16*i.val+j.val)):=by decide +kernel
theorem Rj:∀(i j:Fin 16),kP .u8 (bA .i64 (iB .i64 16 (i.val:Int)) (j.val:Int))=u8 (UInt8.ofNat (16*i.val+j.val)):=by decide +kernel
theorem AJ(l:List UInt8)(k:Nat)(h:k≤l.length):sub l (k:Int) (minus (len l) (k:Int))=l.drop k:=by
 unfold sub minus len;rw[D7,CE (by rw[ou];omega)]
def TT:Option (List UInt8)→List UInt8×Bool×Unit
 | some l=>(l,(true,()))
 | none=>([],(false,()))
theorem Hv:∀(n:Nat) (s:List UInt8) (acc:List Int),s.length≤n→s.length % 2=0→acc.length+s.length≤2097152 →
  ∃q,Loop fV ((s,([],(false,((),())))),(acc,()))=some q∧(match fL s with
   | some l=>q.1=0∧q.2.2.1=acc++ak l
   | none=>q.1=1∧q.2.1.2.1=[]∧q.2.1.2.2.1=false):=by
 intro n;induction n using Nat.strongRecOn with
 | _ n ih =>
   intro s acc hn h2 hb;rw[cL]
   match s,hn,h2,hb with
   | [],_,_,_ =>
     refine⟨(0,(([],([],(false,((),())))),(acc,()))),?_,rfl,?_⟩
     ·unfold fV;rfl
     ·simp[ak]
   | [_],_,h2,_=>simp at h2
   | a::b::r,hn,h2,hb =>
     simp only[kV] at hn h2 hb;have e0:fV ((a::b::r,([],(false,((),())))),(acc,()))=(if hv a<0∨hv b<0 then some (.inr (1,((a::b::r,([],(false,((),())))),(acc,()))))
       else some (.inl ((r,([],(false,((),())))),(acc++[u8 (UInt8.ofNat (16*(hv a).toNat+(hv b).toNat))],())))):=by
      unfold fV;dsimp only;rw[show nt (ig (a::b::r) [])=true from by simp[nt,ig],af,show idx (a::b::r) 0=some a from rfl,aa,
       show([48,49,50,51,52,53,54,55,56,57,97,98,99,100,101,102]:List UInt8)=BP from rfl,Cv,aa,show idx (a::b::r) 1=some b from rfl,aa,Cv,aa]
      dsimp only;by_cases ha:hv a<0
      ·rw[bB ha,aK,ag,af,ek (.inl ha)]
      ·rw[aH (by omega),aP,af];by_cases hb':hv b<0
       ·rw[bB hb',af,ek (.inr hb')]
       ·rw[aH (by omega),ag,cT (by omega),aH (by decide),ag];have hp:kP .u8 (pO .i64 (iC .i64 (hv a) 4) (hv b))=u8 (UInt8.ofNat (16*(hv a).toNat+(hv b).toNat)):=by
         rcases sw a with ⟨h,_⟩|⟨i,hi,h,_⟩
         ·omega
         rcases sw b with ⟨h',_⟩|⟨j,hj,h',_⟩
         ·omega
         rw[h,h'];exact Ri ⟨i,hi⟩ ⟨j,hj⟩
        rw[hp,dP (by simp only[plus,len,kV,oX];omega),af,cM (by decide) (by simp only[len,kV];omega) (HU _),af];have:=AJ (a::b::r) 2 (by simp);rw[show sub (a::b::r) 2 (minus (len (a::b::r)) 2)=r from this];rfl
     rw[e0];by_cases hab:hv a<0∨hv b<0
     ·rw[ek hab];refine⟨_,rfl,?_⟩;simp only[fL,ek hab];exact⟨trivial,trivial,trivial⟩
     ·rw[cT hab];obtain⟨q,q1,q2⟩:=ih r.length (by omega) r (acc++[u8 (UInt8.ofNat (16*(hv a).toNat+(hv b).toNat))]) (kS _) (by omega) (by simp only[pM,kV,oX];omega);refine⟨q,q1,?_⟩;simp only[fL,cT hab];cases hu:fL r with
      | none=>rw[hu] at q2;exact q2
      | some l =>
        rw[hu] at q2;refine⟨q2.1,?_⟩;rw[q2.2,nH];rfl
theorem AK:∀(n:Nat) (s:List UInt8),s.length≤n→s.length % 2=1→fL s=none:=by
 intro n;induction n using Nat.strongRecOn with
 | _ n ih =>
   intro s hn h
   match s,hn,h with
   | [],_,h=>simp at h
   | [_],_,_=>rfl
   | a::b::r,hn,h =>
     simp only[kV] at hn h;simp only[fL];split
     ·rfl
     ·rw[ih r.length (by omega) r (kS _) (by omega)];rfl
theorem Cx(s:List UInt8)(hs:s.length≤1048576):kz (s,())=some (TT (fL s)):=by
 unfold kz;dsimp only;rw[aF (by decide),ag,show gJ (len s) 2=((s.length % 2:Nat):Int) from mz s.length 2];rcases Ot s.length with h|h
 ·rw[h,show b9 ((0:Nat):Int) 0=true from rfl,aK,ag];obtain⟨q,q1,q2⟩:=Hv s.length s [] (kS _) h (by simp;omega);rw[q1,aa];cases hu:fL s with
  | none =>
    rw[hu] at q2;rw[q2.1,show uQ 1 0=false from rfl,ag,q2.2.1,q2.2.2];rfl
  | some l =>
    rw[hu] at q2;rw[q2.1,show uQ 0 0=true from rfl,af,q2.2,CG,gV];rfl
 ·rw[h,show b9 ((1:Nat):Int) 0=false from rfl,aP,af,AK s.length s (kS _) h];rfl
end Go.Ge
namespace Go.Ge
variable [Lp]
theorem Mo{a b:Nat}(h:a+b<4611686018427387904):bA .i64 (a:Int) (b:Int)=((a+b:Nat):Int):=by
 rw[iV (by omega) (by omega)];omega
theorem BQ(s:List UInt8)(hs:s.length≤1048576):∀(n i:Nat) (acc:List Int),s.length-i≤n→i≤s.length→(s.length-i) % 2=0→acc.length≤i →
  ∃q,Loop (fe (s,())) ((([]:List UInt8),(false,((),((i:Int),())))),(acc,()))=some q∧(match fL (s.drop i) with
   | some l=>q.1=0∧q.2.2.1=acc++ak l
   | none=>q.1=1∧q.2.1.1=[]∧q.2.1.2.1=false):=by
 intro n;induction n using Nat.strongRecOn with
 | _ n ih =>
   intro i acc hn hi h2 hb;rw[cL];by_cases hlt:i<s.length
   ·have h1:i+1<s.length:=by omega
    have hd:s.drop i=s[i]::s[i+1]::s.drop (i+2):=by
     rw[Ov hlt,Ov h1]
    rw[hd];generalize ha:s[i]=a;generalize hb':s[i+1]=b;have e0:fe (s,()) ((([]:List UInt8),(false,((),((i:Int),())))),(acc,()))=(if hv a<0∨hv b<0 then some (.inr (1,(([],(false,((),((i:Int),())))),(acc,()))))
      else some (.inl ((([]:List UInt8),(false,((),(((i+2:Nat):Int),())))),(acc++[u8 (UInt8.ofNat (16*(hv a).toNat+(hv b).toNat))],())))):=by
     unfold fe;dsimp only;rw[ck (by omega),bB (by simp only[len];omega),af,DL s hlt,aa,ha,Cw,aa,DL s h1,aa,hb',Cw,aa];dsimp only;by_cases TU:hv a<0
     ·rw[bB TU,aK,ag,af,ek (.inl TU)]
     ·rw[aH (by omega),aP,af];by_cases hvb:hv b<0
      ·rw[bB hvb,af,ek (.inr hvb)]
      ·rw[aH (by omega),ag,cT (by omega)];have hp:kP .u8 (bA .i64 (iB .i64 16 (hv a)) (hv b))=u8 (UInt8.ofNat (16*(hv a).toNat+(hv b).toNat)):=by
        rcases sw a with ⟨h,_⟩|⟨j,hj,h,_⟩
        ·omega
        rcases sw b with ⟨h',_⟩|⟨k,hk,h',_⟩
        ·omega
        rw[h,h'];exact Rj ⟨j,hj⟩ ⟨k,hk⟩
       rw[hp,dP (by simp only[plus,len,kV,oX];omega),af,show bA .i64 (i:Int) 2=((i+2:Nat):Int) from Mo (b:=2) (by omega)];rfl
    rw[e0];by_cases hab:hv a<0∨hv b<0
    ·rw[ek hab];refine⟨_,rfl,?_⟩;simp only[fL,ek hab];exact⟨trivial,trivial,trivial⟩
    ·rw[cT hab];obtain⟨q,q1,q2⟩:=ih (s.length-(i+2)) (by omega) (i+2) (acc++[u8 (UInt8.ofNat (16*(hv a).toNat+(hv b).toNat))]) (kS _) (by omega) (by omega) (by simp only[pM,kV,oX];omega);refine⟨q,q1,?_⟩;simp only[fL,cT hab];cases hu:fL (s.drop (i+2)) with
     | none=>rw[hu] at q2;exact q2
     | some l =>
       rw[hu] at q2;refine⟨q2.1,?_⟩;rw[q2.2,nH];rfl
   ·have:i=s.length:=by omega
    subst this;rw[List.drop_length];refine⟨(0,(([],(false,((),((s.length:Int),())))),(acc,()))),?_,rfl,by simp[ak]⟩;unfold fe;dsimp only;rw[ck (by omega),aH (by simp only[len];omega),ag];rfl
theorem DN(s:List UInt8)(hs:s.length≤1048576):lN (s,())=some (TT (fL s)):=by
 unfold lN;dsimp only;rw[aF (by decide),ag,show gJ (len s) 2=((s.length % 2:Nat):Int) from mz s.length 2];rcases Ot s.length with h|h
 ·rw[h,show b9 ((0:Nat):Int) 1=false from rfl,ag];obtain⟨q,q1,q2⟩:=BQ s hs s.length 0 [] (by omega) (by omega) (by simpa using h) (by simp);rw[show Loop (fe (s,())) (([],(false,((),(0,())))),([],()))=some q from q1,aa];rw[FZ] at q2;cases hu:fL s with
  | none =>
    rw[hu] at q2;rw[q2.1,show uQ 1 0=false from rfl,ag,q2.2.1,q2.2.2];rfl
  | some l =>
    rw[hu] at q2;rw[q2.1,show uQ 0 0=true from rfl,af,q2.2,CG,gV];rfl
 ·rw[h,show b9 ((1:Nat):Int) 1=true from rfl,af,AK s.length s (kS _) h];rfl
theorem JR:∀l:List UInt8,fL (nq l)=some l:=by
 intro l;induction l with
 | nil=>rfl
 | cons b r ih =>
   have hb:=b.toNat_lt;have h1:=O0 ⟨b.toNat / 16,by omega⟩;have h2:=O0 ⟨b.toNat % 16,by omega⟩;simp only at h1 h2;simp only[nq,fL,h1,h2,ih,wu];rw[cT (by omega)]
   congr 2
   rw[D7,D7,show 16*(b.toNat / 16)+b.toNat % 16=b.toNat by omega];simp
end Go.Ge
namespace Go.Ge
variable [Lp]
def nu:List UInt8:=[115,104,97,50,53,54,58]
def kI(s:List UInt8):List UInt8:=nu++nq (aG (Kn s))
theorem sx(s:List UInt8):(kI s).length=71:=by
 unfold kI;rw[pM,mA];simp[aG,jJ,nu]
theorem Cy{α:Type}(l:List α)(n:Nat)(h:l.length=n):sub l 0 (minus n 0)=l:=by
 unfold sub minus;rw[show((0:Int).toNat)=0 from rfl,FZ,CE (by omega)]
theorem Mp(s:List UInt8)(hs:s.length≤1048576):iP (s,())=some (kI s,()):=by
 unfold iP;dsimp only;rw[Ht s hs,aa,cM (by decide) (by decide) (by decide),af];dsimp only;rw[show sub (Kn s) 0 (minus 32 0)=Kn s from Cy _ 32 (jJ s),Oe _ (by simp[aG,jJ]),aa];dsimp only;rw[dP (by simp only[plus,len,mA,aG,zf,jJ,kV,oX];omega),af];rfl
theorem qc(s:List UInt8)(hs:s.length≤1048576):lq (s,())=some (kI s,()):=by
 unfold lq;dsimp only;rw[Hs s hs,aa,cM (by decide) (by decide) (by decide),af];dsimp only;rw[show sub (Kn s) 0 (minus 32 0)=Kn s from Cy _ 32 (jJ s),Hu _ (by simp[aG,jJ]),aa];dsimp only;rw[dP (by simp only[plus,len,mA,aG,zf,jJ,kV,oX];omega),af];rfl
def vV(t:List UInt8):Int:=if t.length=71∧t.take 7=nu∧(fL (t.drop 7)).isSome=true then 0 else 2
theorem FC(l:List UInt8)(k:Nat):sub l 0 (minus (k:Int) 0)=l.take k:=by
 unfold sub minus;rw[show((0:Int).toNat)=0 from rfl,FZ,Int.sub_zero,D7]
theorem BR(t:List UInt8):cm (t,(nu,()))=some (decide (t.take 7=nu),()):=by
 unfold cm;dsimp only;by_cases h:7≤t.length
 ·rw[kG (by simp only[len];show(7:Int)≤_;omega),af,show inside 0 (len nu) (len t)=true from cM (by decide) (by decide) (by simp only[len];show(7:Int)≤_;omega),af,
   show sub t 0 (minus (len nu) 0)=t.take 7 from FC t 7,aa]
  rfl
 ·rw[p8 (by simp only[len];show _<(7:Int);omega),ag,aa];have:¬t.take 7=nu:=fun e=>by
   have:=congrArg List.length e;rw[iA] at this;have h7:nu.length=7:=rfl;omega
  rw[yc this]
theorem Of(t:List UInt8):gz (t,(nu,()))=some (if t.take 7=nu then(t.drop 7,(true,())) else(t,(false,()))):=by
 unfold gz dB;dsimp only;rw[BR,aa];dsimp only;by_cases h:t.take 7=nu
 ·have h7:7≤t.length:=by
   have:=congrArg List.length h;rw[iA] at this;have:nu.length=7:=rfl;omega
  rw[Ba h,aK,ag,show inside (len nu) (len t) (len t)=true from cM (by decide) (by simp only[len];show(7:Int)≤_;omega) (HU _),af,aa,ek h,
   show sub t (len nu) (minus (len t) (len nu))=t.drop 7 from AJ t 7 h7]
 ·rw[yc h,aP,af,aa,cT h]
theorem JS(t:List UInt8)(ht:t.length≤1048576):kC (t,())=some (vV t,()):=by
 unfold kC;dsimp only;rw[show([115,104,97,50,53,54,58]:List UInt8)=nu from rfl,Of,aa];unfold vV;by_cases h:t.take 7=nu
 ·have h7:7≤t.length:=by
   have:=congrArg List.length h;rw[iA] at this;have:nu.length=7:=rfl;omega
  rw[ek h];dsimp only;rw[Cx _ (by rw[ou];omega),aa,aK,aP,af];cases hu:fL (t.drop 7) with
  | none =>
    rw[cT (by simp)];show aO (aO (nt (nt false)) _ true) (some (2,())) _=_
    rw[aP,aK,ag,af]
  | some l =>
    show aO (aO (nt (nt true)) _ true) _ _=_
    rw[aK,aP,af];by_cases PX:t.length=71
    ·rw[br (by simp only[len,ou];omega),aK,ag,ek ⟨PX,h,rfl⟩]
    ·rw[aF (by simp only[len,ou];omega),aP,af,cT (fun e=>PX e.1)]
 ·rw[cT h];dsimp only;rw[Cx _ ht,aa,aP,aK,ag,aK,ag,af,cT (fun e=>h e.2.1)]
theorem DO(t:List UInt8)(ht:t.length≤1048576):lO (t,())=some (vV t,()):=by
 unfold lO vV;dsimp only;by_cases PX:t.length=71
 ·rw[br (by simp only[len];omega),aK,aP,af,cM (by decide) (by decide) (by simp only[len];omega),af,aa,
   show sub t 0 (minus 7 0)=t.take 7 from FC t 7,show([115,104,97,50,53,54,58]:List UInt8)=nu from rfl]
  by_cases h:t.take 7=nu
  ·rw[h,vO,aK,ag,cM (by decide) (by simp only[len];omega) (HU _),af,
    show sub t 7 (minus (len t) 7)=t.drop 7 from AJ t 7 (by omega),DN _ (by rw[ou];omega),aa]
   cases hu:fL (t.drop 7) with
   | none =>
     rw[cT (by simp)];show aO (nt false) (some (2,())) _=_
     rw[aP,af]
   | some l =>
     show aO (nt true) _ _=_
     rw[aK,ag,ek ⟨PX,rfl,rfl⟩]
  ·rw[show ig (t.take 7) nu=false from yc h,aP,af,cT (fun e=>h e.2.1)]
 ·rw[aF (by simp only[len];omega),aP,aK,ag,aa,af,cT (fun e=>PX e.1)]
theorem JT(s:List UInt8):(kI s).take 7=nu:=Eb rfl
theorem JU(s:List UInt8):(kI s).drop 7=nq (aG (Kn s)):=IK rfl
theorem AL(s:List UInt8):vV (kI s)=0:=by
 have h3:(fL ((kI s).drop 7)).isSome=true:=by
  rw[JU,JR];rfl
 exact ek ⟨sx s,JT s,h3⟩
theorem Mq(d s:List UInt8)(hs:s.length≤1048576):jT (d,(s,()))=some (decide (d=kI s),()):=by
 unfold jT;dsimp only;rw[Mp s hs,aa];rfl
end Go.Ge
namespace Go.Ge
variable [Lp]
end Go.Ge
namespace Go.Ge
variable [Lp]
set_option maxRecDepth 100000
end Go.Ge
namespace Go.Ge
variable [Lp]
def O1(s:List UInt8):Prop:=∀x∈s,x≠0
instance (s:List UInt8):Decidable (O1 s):=inferInstanceAs (Decidable (∀x∈s,x≠0))
abbrev Hd:=List UInt8×Int×Int×Int×Int×Int×Int×List UInt8×Unit
def SX(s:List UInt8)(most:Int):Prop:=s≠[]∧(s.length:Int)≤most∧O1 s
instance (s:List UInt8) (most:Int):Decidable (SX s most):=inferInstanceAs (Decidable (_∧_∧_))
def LY(n b:Int):Prop:=0≤n∧n<b
instance (n b:Int):Decidable (LY n b):=inferInstanceAs (Decidable (_∧_))
def kindOk(h:Hd):Prop:=(h.2.1=1∧h.2.2.2.2.2.2.2.1=[])∨(h.2.1=2∧h.2.2.2.2.2.2.2.1=[]∧h.2.2.2.2.2.1=0)∨(h.2.1=3∧SX h.2.2.2.2.2.2.2.1 100∧h.2.2.2.2.2.1=0)
instance (h:Hd):Decidable (kindOk h):=inferInstanceAs (Decidable (_∨_∨_))
def SY(h:Hd)(most:Int):Prop:=LY h.2.2.1 2097152∧LY h.2.2.2.1 2097152∧LY h.2.2.2.2.1 2097152∧LY h.2.2.2.2.2.1 8589934592∧LY h.2.2.2.2.2.2.1 8589934592∧SX h.1 most∧kindOk h
instance (h:Hd) (most:Int):Decidable (SY h most):=inferInstanceAs (Decidable (_∧_∧_∧_∧_∧_∧_))
end Go.Ge
namespace Go.Ge
variable [Lp]
set_option maxRecDepth 100000
theorem JV{u:Nat}(h:u<10):Lib.decDigits u=[UInt8.ofNat (48+u)]:=by rw[Lib.decDigits,dif_pos h]
theorem Og(n:Int):qH (n,())=some (Lib.itoa n,()):=rfl
theorem Cz{n:Nat}(h:n≤9223372036854775808):gr (-(n:Int),())=some (Lib.decDigits n,()):=by
 unfold gr;dsimp only;rw[ek ⟨by omega,by omega⟩,HR,HK]
theorem Hw{u:Nat}(h:u<18446744073709551616):(Lib.decDigits u).length≤20:=by
 rw[Lib.decDigits_length];exact Lib.nDigits_le20 u h
theorem Hy{v:Int}(h0:-9223372036854775808≤v)(h1:v≤9223372036854775807):oK (v,())=some (Lib.itoa v,()):=by
 unfold oK;dsimp only;by_cases hv:v<0
 ·obtain⟨u,rfl⟩:∃u:Nat,v=-(u:Int):=⟨v.natAbs,by omega⟩;have hl:=Hw (u:=u) (by omega);rw[bB hv,af,Cz (by omega),aa];dsimp only;rw[lu (by simp only[kV,oX];omega),af,Lib.itoa_neg u (by omega)];rfl
 ·obtain⟨u,rfl⟩:∃u:Nat,v=(u:Int):=⟨v.toNat,by omega⟩;rw[aH (by omega),ag,dI (by omega) (by omega),show(0:Int)-(u:Int)=-(u:Int) by omega,Cz (by omega),aa,Lib.itoa_nonneg]
end Go.Ge
namespace Go.Ge
variable [Lp]
theorem uJ(x:Int×Unit):dy 0 x=none:=by
 unfold dy;rw[cT (by omega)]
theorem AM{d:Nat}(h:d<10):aG [kP .u8 ((48+d:Nat):Int)]=[UInt8.ofNat (48+d)]:=by
 rw[show kP .u8 ((48+d:Nat):Int)=((48+d:Nat):Int) by unfold kP;simp[IntKind.wrap,IntKind.min,IntKind.max,IntKind.signed,IntKind.bits];omega];show [UInt8.ofNat ((48+d:Nat):Int).toNat]=_
 rw[D7]
theorem uK(k:Nat)(x:Int×Unit)(y:(List UInt8)×Unit)(h:dy (k+1) x=some y):pE (dy k) x=some y:=by
 unfold dy at h;split at h
 case isFalse=>cases h
 rename_i hx;obtain rfl:=ax h;obtain⟨v,u⟩:=x;dsimp only at hx;obtain⟨n,rfl⟩:∃n:Nat,v=-(n:Int):=⟨v.natAbs,by omega⟩;obtain⟨h0,h1,_,hk⟩:=hx;rw[HR,HK] at hk;unfold pE;dsimp only;rw[HR,HK];have hsub:∀d:Nat,d<10→dn .i64 48 (-(d:Int))=((48+d:Nat):Int):=fun d hd=>by
  rw[dI (by omega) (by omega)];omega
 by_cases hn:n<10
 ·rw[bB (by omega),af,hsub n hn,AM hn,Lib.decDigits,dif_pos hn]
 ·have e1:ug .i64 (-(n:Int)) 10=-((n / 10:Nat):Int):=by
   unfold ug;rw[show(-(n:Int)).tdiv 10=-((n / 10:Nat):Int) by rw[Int.neg_tdiv];rfl];exact Ik (by omega) (by omega)
  have e2:gJ (-(n:Int)) 10=-((n % 10:Nat):Int):=by
   unfold gJ;rw[Int.neg_tmod];rfl
  have ON:0<k:=by
   rcases Kw k with rfl|h
   ·simp at hk;omega
   ·exact h
  have hlt:n / 10<10 ^ k:=by
   rw[KC (by decide)];rw[Nat.pow_succ] at hk;exact hk
  rw[aH (by omega),ag,show b9 10 0=false from rfl,ag,e1,e2];have e3:dy k (-((n / 10:Nat):Int),())=some (Lib.decDigits (n / 10),()):=by
   unfold dy;dsimp only;rw[HR,HK,ek ⟨by omega,by omega,ON,hlt⟩]
  rw[e3,aa,ag,hsub _ (by omega),AM (by omega)];dsimp only;have hl:(Lib.decDigits (n / 10)).length≤20:=by
   rw[Lib.decDigits_length];exact Lib.nDigits_le20 _ (by omega)
  rw[show fits (plus (len (Lib.decDigits (n / 10))) (len [UInt8.ofNat (48+n % 10)]))=true from dP (by simp only[plus,len];simp only[kV,oX];omega),af]
  conv=>rhs;rw[Lib.decDigits,dif_neg hn]
  rfl
theorem vW(x:Int×Unit)(y:(List UInt8)×Unit)(h:gr x=some y):∃k,dy k x=some y:=by
 unfold gr at h;split at h
 case isFalse=>cases h
 rename_i hx;refine⟨20,?_⟩;unfold dy;have h2:x.1.natAbs<10 ^ 20:=by
  have:x.1.natAbs≤9223372036854775808:=by omega
  exact Nat.lt_of_le_of_lt this (by decide)
 rw[ek ⟨hx.1,hx.2,by decide,h2⟩];exact h
end Go.Ge
namespace Go.Ge
variable [Lp]
abbrev rB:=Int×Tx×Tx×Int×Int×Int×Tx×Int×Int×Unit
abbrev tr:=Int×Int×Tx×List Tx×Unit
abbrev M5:=List (rB×tr×Unit)
abbrev s6:=Bool×M5×Int×Bool×Bool×rB×Unit
abbrev xk:=List rB×List tr×Int×rB×Bool×Bool×Unit
def uL(r:tr):Prop:=r.2.2.2.1.length≤1000000∧r.2.2.1.length≤1000000
structure rC (m:Nat) (c:s6) (d:xk):Prop where
 given:c.1=true
 ops:d.1=c.2.1.map (·.1)
 res:d.2.1=c.2.1.map (·.2.1)
 at':d.2.2.1=c.2.2.1
 lo:∃n:Nat,c.2.2.1=n∧n≤c.2.1.length
 waits:d.2.2.2.2.2.1=c.2.2.2.1
 CA:d.2.2.2.2.1=c.2.2.2.2.1
 op:c.2.2.2.2.1=true→d.2.2.2.1=c.2.2.2.2.2.1
 TV:∀x∈c.2.1,uL x.2.1
 len:c.2.1.length≤m∧m≤1000000
variable {m:Nat}
theorem AN(r:tr)(h:uL r):iR (r,())=some (r,()):=by
 unfold iR;dsimp only;rw[Hl r.2.2.2.1 (by unfold uL at h;omega),aa]
theorem qL{α:Type}{l:List α}{n:Nat}(h:n<l.length):within (n:Int) (len l)=true:=bC (by omega) (by unfold len;omega)
theorem PY{c:s6}{d:xk}(h:rC m c d)(o:rB) :
  ∃r c' d',iS ((o,()),(c,()))=some ((r,()),(c',()))∧dG ((o,()),(d,()))=some ((r,()),(d',()))∧rC m c' d'∧uL r:=by
 obtain⟨g,l,a,wa,wn,op,u⟩:=c;obtain⟨ops,res,k,O2,Oh,Rk,u2⟩:=d;obtain⟨h1,h2,h3,h4,⟨n,h5,hn⟩,h6,h7,h8,h9,h10⟩:=h;dsimp only at h1 h2 h3 h4 h5 hn h6 h7 h8 h9 h10;subst h1;subst h2;subst h3;subst h4;subst h5;subst h6;subst h7;unfold iS dG cJ;dsimp only;rw[aa];dsimp only;rw[aK,ag];cases Rk with
 | true =>
   rw[af,af];exact⟨_,(true,(l,((n:Int),(true,(Oh,(op,())))))),(l.map (·.1),(l.map (·.2.1),((n:Int),(O2,(Oh,(true,())))))),rfl,rfl,⟨rfl,rfl,rfl,rfl,⟨n,rfl,hn⟩,rfl,rfl,h8,h9,h10⟩,⟨by show(0:Nat)≤_;omega,by show(0:Nat)≤_;omega⟩⟩
 | false =>
   rw[ag,ag];by_cases hq:n=l.length
   ·rw[br (by unfold len;omega),af,aH (by unfold len;rw[zf];omega),ag];exact⟨_,(true,(l,((n:Int),(true,(true,(o,())))))),(l.map (·.1),(l.map (·.2.1),((n:Int),(o,(true,(true,())))))),rfl,rfl,⟨rfl,rfl,rfl,rfl,⟨n,rfl,hn⟩,rfl,rfl,fun _=>rfl,h9,h10⟩,⟨by show(0:Nat)≤_;omega,by show(0:Nat)≤_;omega⟩⟩
   ·have hlt:n<l.length:=by omega
    have hx:l[n]?=some l[n]:=qV hlt;have hi:dn .i64 (bA .i64 (n:Int) 1) 1=(n:Int):=by
     rw[ck (by omega),dI (by omega) (by omega)];omega
    rw[aF (by unfold len;omega),ag,qL hlt,af,bu hx,aa,bB (by unfold len;rw[zf];omega),af,qL (by rw[zf];exact hlt),af,
     bu (show(l.map (·.1))[n]?=some l[n].1 by rw[zb,hx];rfl),aa,hi]
    cases nt (an (b9 l[n].1.1 o.1) (an (ig l[n].1.2.1 o.2.1) (an (ig l[n].1.2.2.1 o.2.2.1) (an (b9 l[n].1.2.2.2.1 o.2.2.2.1) (an (b9 l[n].1.2.2.2.2.1 o.2.2.2.2.1) (an (b9 l[n].1.2.2.2.2.2.1 o.2.2.2.2.2.1) (an (ig l[n].1.2.2.2.2.2.2.1 o.2.2.2.2.2.2.1) (an (b9 l[n].1.2.2.2.2.2.2.2.1 o.2.2.2.2.2.2.2.1) (an (b9 l[n].1.2.2.2.2.2.2.2.2.1 o.2.2.2.2.2.2.2.2.1) true))))))))) with
    | true =>
      rw[af,af];exact⟨_,(true,(l,((n:Int),(false,(Oh,(op,())))))),(l.map (·.1),(l.map (·.2.1),((n:Int),(O2,(Oh,(false,())))))),rfl,rfl,⟨rfl,rfl,rfl,rfl,⟨n,rfl,hn⟩,rfl,rfl,h8,h9,h10⟩,⟨by show(0:Nat)≤_;omega,by show(0:Nat)≤_;omega⟩⟩
    | false =>
      rw[ag,ag,qL hlt,af,bu hx,aa,AN _ (h9 _ (II hlt)),aa,qL (by rw[zf];exact hlt),af,
       bu (show(l.map (·.2.1))[n]?=some l[n].2.1 by rw[zb,hx];rfl),aa,ck (by omega)]
      exact⟨_,(true,(l,(((n+1:Nat):Int),(false,(Oh,(op,())))))),(l.map (·.1),(l.map (·.2.1),(((n+1:Nat):Int),(O2,(Oh,(false,())))))),rfl,rfl,⟨rfl,rfl,rfl,rfl,⟨n+1,rfl,by show n+1≤l.length;omega⟩,rfl,rfl,h8,h9,h10⟩,h9 _ (II hlt)⟩
theorem contains_nil(e:Int):aR ([],(e,()))=some (false,()):=by
 unfold aR b8;dsimp only;rw[cL];rfl
theorem DP(a e:Int):aR ([a],(e,()))=some (decide (e=a),()):=by
 unfold aR b8;dsimp only;by_cases h:e=a
 ·subst h;have h0:aQ ([e],(e,())) (((0:Int),((0:Int),())),())=some (.inr (1,(((0:Int),((0:Int),())),()))):=by
   unfold aQ;show aO (b9 e e) _ _=_
   rw[si,af]
  rw[cL,h0,Ba rfl];rfl
 ·have h0:aQ ([a],(e,())) (((0:Int),((0:Int),())),())=some (.inl (((0:Int),((1:Int),())),())):=by
   unfold aQ;show aO (b9 e a) _ _=_
   rw[aF h,ag];rfl
  have h1:aQ ([a],(e,())) (((0:Int),((1:Int),())),())=some (.inr (0,(((0:Int),((1:Int),())),()))):=rfl;rw[cL,h0,yc h];have h2:Loop (aQ ([a],(e,()))) (((0:Int),((1:Int),())),())=some (0,(((0:Int),((1:Int),())),())):=by rw[cL,h1];rfl
  show ah (ah (Loop (aQ ([a],(e,()))) (((0:Int),((1:Int),())),())) _) _=_
  rw[h2];rfl
def O3(Mr:Option Int)(e:Int):Int:=match Mr with|none=>e|some a=>if e=a then 0 else e
def Ms:Option Int→List Int|none=>[]|some a=>[a]
theorem Iv{c:s6}{d:xk}(h:rC m c d)(o:rB)(Mr:Option Int) :
  ∃r c' d',iT ((o,(Ms Mr,())),(c,()))=some ((r,(O3 Mr r.1,())),(c',()))∧dG ((o,()),(d,()))=some ((r,()),(d',()))∧rC m c' d'∧uL r:=by
 obtain⟨r,c',d',e1,e2,h',hf⟩:=PY h o;refine⟨r,c',d',?_,e2,h',hf⟩;unfold iT;dsimp only;rw[show iS ((o,()),((c.1,(c.2.1,(c.2.2.1,(c.2.2.2.1,(c.2.2.2.2.1,(c.2.2.2.2.2.1,())))))),()))=_ from e1,aa];dsimp only;cases Mr with
 | none =>
   rw[show aR (Ms none,(r.1,()))=_ from contains_nil r.1,aa,ag];rfl
 | some a =>
   rw[show aR (Ms (some a),(r.1,()))=_ from DP a r.1,aa];unfold O3;by_cases q:r.1=a
   ·rw[Ba q,af];dsimp only;rw[ek q]
   ·rw[yc q,ag];dsimp only;rw[cT q]
theorem JW{c:s6}{d:xk}(h:rC m c d)(o:rB) :
  ∃r c' d',ng ((o,()),(c,()))=some ((b9 r.1 14,()),(c',()))∧dG ((o,()),(d,()))=some ((r,()),(d',()))∧rC m c' d':=by
 obtain⟨r,c',d',e1,e2,h',_⟩:=Iv h o none;refine⟨r,c',d',?_,e2,h'⟩;unfold ng;dsimp only;rw[show iT ((o,(([]:List Int),())),((c.1,(c.2.1,(c.2.2.1,(c.2.2.2.1,(c.2.2.2.2.1,(c.2.2.2.2.2.1,())))))),()))=_ from e1,aa];rfl
theorem qM(r:tr):lP (r,())=some (b9 r.1 14,()):=rfl
def O4(kind:Int)(path to:Tx)(hn n:Int)(data:Tx):rB:=(kind,(path,(to,(hn,(0,(n,(data,(0,(0,())))))))))
def Alike(m:Nat){R:Type}(x:Option (R×s6×Unit))(y:Option (R×xk×Unit)):Prop:=∃r c' d',x=some (r,(c',()))∧y=some (r,(d',()))∧rC m c' d'
theorem ob{α β:Type}{o:Option α}{x:α}{f:α→Option β}{r:Option β}(h:o=some x)(k:f x=r):ah o f=r:=by rw[h];exact k
theorem FD{c:s6}{d:xk}(h:rC m c d)(o:rB) :
 ∃r c' d',iT ((o,([],())),(c,()))=some ((r,(r.1,())),(c',()))∧dG ((o,()),(d,()))=some ((r,()),(d',()))∧rC m c' d'∧uL r:=Iv h o none
end Go.Ge
namespace Go.Ge
variable [Lp]
variable {m:Nat}
theorem JX{c:s6}{d:xk}(h:rC m c d)(path:Tx):∃s e c' d',fW ((path,()),(c,()))=some ((s,(e,())),(c',()))∧fX ((path,()),(d,()))=some ((s,(e,())),(d',()))∧rC m c' d'∧s.length≤1000000:=by
 obtain⟨r1,c1,d1,e1,f1,h1,_⟩:=FD h (O4 4 path [] 0 0 []);by_cases q1:r1.1=0
 rotate_left
 ·refine⟨[],r1.1,c1,d1,?_,?_,h1,by simp⟩
  ·unfold fW;refine ob e1 ?_;dsimp only;rw[aF q1,aP,af]
  ·unfold fX;refine ob f1 ?_;dsimp only;rw[aF q1,aP,af]
 obtain⟨r2,c2,d2,e2,f2,h2,Vk⟩:=FD h1 (O4 6 [] [] r1.2.1 1048576 []);by_cases q2:r2.1=14
 ·refine⟨[],14,c2,d2,?_,?_,h2,by simp⟩
  ·unfold fW;refine ob e1 ?_;dsimp only;rw[br q1,aK,ag];refine ob e2 ?_;dsimp only;rw[br q2,aK,ag]
  ·unfold fX;refine ob f1 ?_;dsimp only;rw[br q1,aK,ag];refine ob f2 ?_;refine ob (qM r2) ?_;dsimp only;rw[br q2,af,q2]
 obtain⟨r3,c3,d3,e3,f3,h3⟩:=JW h2 (O4 5 [] [] r1.2.1 0 []);by_cases q3:r3.1=14
 ·refine⟨[],14,c3,d3,?_,?_,h3,by simp⟩
  ·unfold fW;refine ob e1 ?_;dsimp only;rw[br q1,aK,ag];refine ob e2 ?_;dsimp only;rw[aF q2,aP,af];refine ob e3 ?_;dsimp only;rw[br q3,af]
  ·unfold fX;refine ob f1 ?_;dsimp only;rw[br q1,aK,ag];refine ob f2 ?_;refine ob (qM r2) ?_;dsimp only;rw[aF q2,ag];refine ob f3 ?_;refine ob (qM r3) ?_;dsimp only;rw[br q3,af,q3]
 by_cases q4:r2.1=0
 ·refine⟨r2.2.2.1,0,c3,d3,?_,?_,h3,Vk.2⟩
  ·unfold fW;refine ob e1 ?_;dsimp only;rw[br q1,aK,ag];refine ob e2 ?_;dsimp only;rw[aF q2,aP,af];refine ob e3 ?_;dsimp only;rw[aF q3,ag,br q4,aK,ag]
  ·unfold fX;refine ob f1 ?_;dsimp only;rw[br q1,aK,ag];refine ob f2 ?_;refine ob (qM r2) ?_;dsimp only;rw[aF q2,ag];refine ob f3 ?_;refine ob (qM r3) ?_;dsimp only;rw[aF q3,ag,br q4,aK,ag]
 ·refine⟨[],r2.1,c3,d3,?_,?_,h3,by simp⟩
  ·unfold fW;refine ob e1 ?_;dsimp only;rw[br q1,aK,ag];refine ob e2 ?_;dsimp only;rw[aF q2,aP,af];refine ob e3 ?_;dsimp only;rw[aF q3,ag,aF q4,aP,af]
  ·unfold fX;refine ob f1 ?_;dsimp only;rw[br q1,aK,ag];refine ob f2 ?_;refine ob (qM r2) ?_;dsimp only;rw[aF q2,ag];refine ob f3 ?_;refine ob (qM r3) ?_;dsimp only;rw[aF q3,ag,aF q4,aP,af]
abbrev Qo(c:s6):(Bool×Unit×Int×Bool×Bool×rB×Unit)×M5×Unit:=((c.1,((),(c.2.2.1,(c.2.2.2.1,(c.2.2.2.2.1,(c.2.2.2.2.2.1,())))))),(c.2.1,()))
abbrev Qp(d:xk):(Unit×Unit×Int×rB×Bool×Bool×Unit)×List rB×List tr×Unit:=(((),((),(d.2.2.1,(d.2.2.2.1,(d.2.2.2.2.1,(d.2.2.2.2.2.1,())))))),(d.1,(d.2.1,())))
end Go.Ge
namespace Go.Ge
variable [Lp]
variable {m:Nat}
theorem CB{c:s6}{d:xk}(h:rC m c d):∃c' d',dF ((),(c,()))=some ((),(c',()))∧eJ ((),(d,()))=some ((),(d',()))∧rC m c' d':=by
 obtain⟨g,l,a,wa,wn,op,u⟩:=c;obtain⟨ops,res,k,O2,Oh,Rk,u2⟩:=d;obtain⟨h1,h2,h3,h4,⟨n,h5,hn⟩,h6,h7,h8,h9,h10⟩:=h;dsimp only at h1 h2 h3 h4 h5 hn h6 h7 h8 h9 h10;subst h1;refine⟨(true,(l,((0:Int),(false,(false,(op,())))))),(ops,(res,((0:Int),(O2,(false,(false,())))))),?_,rfl,⟨rfl,h2,h3,rfl,⟨0,rfl,oZ _⟩,rfl,rfl,fun h=>(by cases h),h9,h10⟩⟩;unfold dF cJ;dsimp only;rw[aa];rfl
theorem vX{c:s6}(hg:c.1=true):dY ((),(c,()))=some ((aO c.2.2.2.2.1 c.2.2.2.2.2.1 ((0:Int),(([]:Tx),(([]:Tx),((0:Int),((0:Int),((0:Int),(([]:Tx),((0:Int),((0:Int),()))))))))),(c.2.2.2.2.1,())),(c,())):=by
 obtain⟨g,l,a,wa,wn,op,u⟩:=c;dsimp only at hg;subst hg;unfold dY cJ;dsimp only;rw[aa];dsimp only;cases wn<;>rfl
theorem Mt{c:s6}{d:xk}(h:rC m c d)(hw:c.2.2.2.2.1=true)(r:tr)(hr:uL r)(hm:m+1≤1000000) :
  ∃c' d',bW ((r,()),(c,()))=some (((0:Int),()),(c',()))∧bX ((r,()),(d,()))=some (((0:Int),()),(d',()))∧rC (m+1) c' d':=by
 have Iw:=vX h.given;obtain⟨g,l,a,wa,wn,op,u⟩:=c;obtain⟨ops,res,k,O2,Oh,Rk,u2⟩:=d;obtain⟨h1,h2,h3,h4,⟨n,h5,hn⟩,h6,h7,h8,h9,h10⟩:=h;dsimp only at h1 h2 h3 h4 h5 hn h6 h7 h8 h9 h10 hw Iw;subst h1;subst h2;subst h3;subst hw;subst h7;refine⟨(true,(l++[(op,(r,()))],(a,(wa,(false,(op,())))))),((l++[(op,(r,()))]).map (·.1),((l++[(op,(r,()))]).map (·.2.1),(k,(O2,(false,(Rk,())))))),?_,?_,
  ⟨rfl,rfl,rfl,h4,⟨n,h5,by show n≤(l++[(op,(r,()))]).length;rw[pM];omega⟩,h6,rfl,fun h=>(by cases h),?_,?_⟩⟩
 ·unfold bW;refine ob Iw ?_;dsimp only;rw[aK,ag];refine ob (AN r hr) ?_;rw[dP,af]
  ·rfl
  ·simp only[plus,len,kV,oX];omega
 ·unfold bX;dsimp only;rw[aK,ag,h8 rfl,dP,af,dP,af,tc,tc]
  ·rfl
  all_goals simp only[plus,len,zf,kV,oX];omega
 ·intro x hx;rcases List.mem_append.1 hx with hx|hx
  ·exact h9 x hx
  ·rw[List.mem_singleton.1 hx];exact hr
 ·show(l++[(op,(r,()))]).length≤m+1∧m+1≤1000000
  rw[pM,Na];omega
theorem Hz(x:List tr×Int×Unit)(i:Nat)(r:tr)(hx:x.1[i]?=some r)(hr:r.2.2.2.1.length≤12) :
  (∃j:Int,Loop (dZ x ((false,((i:Int),())),())) ((false,((0:Int),())),())=some (1,((false,(j,())),()))) ∨
   (∃j:Int,Loop (dZ x ((false,((i:Int),())),())) ((false,((0:Int),())),())=some (0,((false,(j,())),()))):=by
 rcases PK (f:=dZ x ((false,((i:Int),())),())) r.2.2.2.1 (fun j=>((false,(j,())),())) (fun _ s=>decide (100<s.length)) (fun j _=>(1,((false,((j:Int),())),()))) (0,((false,((r.2.2.2.1.length:Int),())),())) (by omega)
  (fun j s hs hj p9=>by
   unfold dZ;dsimp only;refine ob (bu hx) ?_;rw[ga hj,af];refine ob (bu hx) ?_;refine ob (bu hs) ?_;by_cases q:100<s.length
   ·rw[bB (by unfold len;omega),af,Ba q];rfl
   ·rw[aH (by unfold len;omega),ag,yc q,p9];rfl)
  (by
   unfold dZ;dsimp only;refine ob (bu hx) ?_;rw[mq,ag]) with ⟨j,s,_,_,_,e⟩|⟨_,e⟩
 ·exact .inl ⟨_,e⟩
 ·exact .inr ⟨_,e⟩
theorem DQ(N:Nat)(hN:N≤1000)(l:List tr):∃b,gU (l,((N:Int),()))=some (b,())∧(b=true→l.length≤N∧∀r∈l,uL r):=by
 have step:∀(i:Nat) (r:tr),l[i]?=some r→i<l.length→i<N→bA .i64 (i:Int) 1=((i+1:Nat):Int) →
   ∃b:Bool,(b=false→uL r)∧cY (l,((N:Int),())) ((false,((i:Int),())),())=some (if b=true then .inr (1,((false,((i:Int),())),())) else .inl ((false,(((i+1:Nat):Int),())),())):=by
  intro i r hx hi h12 p9;unfold cY;dsimp only;rw[ga hi,af,bB (by omega),af];by_cases q1:4096<r.2.2.1.length
  ·refine⟨true,fun h=>(by cases h),?_⟩;refine ob (bu hx) ?_;rw[bB (by unfold len;omega),aK,ag,aa,aK,ag,aa,af,ek rfl]
  rw[show(∀{β:Type} (f:tr→Option β),ah (@idx tr l (i:Int)) f=f r) from fun f=>ob (bu hx) rfl];rw[aH (by unfold len;omega),aP,af];rw[show(∀{β:Type} (f:tr→Option β),ah (@idx tr l (i:Int)) f=f r) from fun f=>ob (bu hx) rfl,aa];by_cases q2:12<r.2.2.2.1.length
  ·refine⟨true,fun h=>(by cases h),?_⟩;rw[bB (by unfold len;omega),aK,ag,aa,af,ek rfl]
  rw[aH (by unfold len;omega),aP,af];rw[show(∀{β:Type} (f:tr→Option β),ah (@idx tr l (i:Int)) f=f r) from fun f=>ob (bu hx) rfl,aa];by_cases q3:r.1=14
  ·refine⟨true,fun h=>(by cases h),?_⟩;rw[br q3,af,ek rfl]
  rw[aF q3,ag];rcases Hz (l,((N:Int),())) i r hx (by omega) with ⟨j,e⟩|⟨j,e⟩
  ·refine⟨true,fun h=>(by cases h),?_⟩;refine ob e ?_;rfl
  ·refine⟨false,fun _=>(by unfold uL;omega),?_⟩;refine ob e ?_;dsimp only;rw[p9];rfl
 have Cj:∀(i:Nat) (r:tr),∃b:Bool,l[i]?=some r→i<N→((b=false→uL r)∧cY (l,((N:Int),())) ((false,((i:Int),())),())=some (if b=true then .inr (1,((false,((i:Int),())),())) else .inl ((false,(((i+1:Nat):Int),())),()))):=by
  intro i r;by_cases hx:l[i]?=some r∧i<N
  ·obtain⟨b,hb⟩:=step i r hx.1 (mo hx.1) hx.2 (ck (by omega));exact⟨b,fun _ _=>hb⟩
  ·exact⟨true,fun h1 h2=>absurd ⟨h1,h2⟩ hx⟩
 have hp:∃p:Nat→tr→Bool,∀i r,l[i]?=some r→i<N→((p i r=false→uL r)∧cY (l,((N:Int),())) ((false,((i:Int),())),())=some (if p i r=true then .inr (1,((false,((i:Int),())),())) else .inl ((false,(((i+1:Nat):Int),())),()))) :=
  ⟨fun i r=>Classical.choose (Cj i r),fun i r=>FV (Cj i r)⟩
 obtain⟨p,hp⟩:=hp;rcases Mb (f:=cY (l,((N:Int),()))) l N (fun j=>((false,(j,())),())) p (fun j _=>(1,((false,((j:Int),())),()))) (fun n=>(0,((false,((n:Int),())),()))) (by omega)
  (fun i r hx hi h12 p9=>(hp i r hx h12).2)
  (by
   unfold cY;dsimp only;by_cases q:l.length≤N
   ·rw[show min N l.length=l.length by omega,mq,ag,ag]
   ·rw[show min N l.length=N by omega,ga (by omega),af,aH (by omega),ag]) with ⟨i,r,_,_,_,_,e⟩|⟨ha,e⟩
 ·refine⟨false,?_,fun h=>(by cases h)⟩;unfold gU;refine ob e ?_;rfl
 ·refine⟨yI (len l) (N:Int),?_,fun h=>?_⟩
  ·unfold gU;refine ob e ?_;rfl
  ·have hl:l.length≤N:=by unfold yI len at h;have:=wq h;omega
   refine⟨hl,fun r hr=>?_⟩;obtain⟨i,hi,hx⟩:=FW hr;have hx':l[i]?=some r:=by rw[qV hi,hx]
   exact(hp i r hx' (by omega)).1 (ha i r (by omega) hx')
end Go.Ge
namespace Go.Ge
variable [Lp]
variable {m:Nat}
abbrev PZ:=List UInt8×(Unit×(Unit×Int×Unit)×(Unit×(Int×Int×Unit)×Unit)×Unit)×List UInt8×(Unit×Unit×Int×Unit)×Unit
def Lz(s:List UInt8)(d:Int)(t:List UInt8)(m:Int):PZ:=(s,(((),(((),(d,())),(((),(((0:Int),((0:Int),())),())),()))),(t,(((),((),(m,()))),()))))
theorem DR(s:List UInt8)(hs:s.length≤1048576):cz ((),(Lz s 0 [] 0,()))=some ((kI s,()),(Lz s 1 (kI s) 1,())):=by
 unfold cz Lz;dsimp only;rw[si,af,af,af,Mp s hs,aa]
theorem DS(s t:List UInt8)(m:Int):cz ((),(Lz s 1 t m,()))=some ((t,()),(Lz s 1 t m,())):=by
 unfold cz Lz;dsimp only;rw[aF (by decide),ag]
def SZ(s:List UInt8)(i:Nat):PZ:=Lz s (if i=0 then 0 else 1) (if i=0 then [] else kI s) (if i=0 then 0 else 1)
theorem mB(s:List UInt8)(hs:s.length≤1048576)(i:Nat):cz ((),(SZ s i,()))=some ((kI s,()),(SZ s (i+1),())):=by
 cases i with
 | zero=>exact DR s hs
 | succ i=>exact DS s (kI s) 1
abbrev rD:=Tx×Tx×List Tx×Tx×Int×Int×Bool×Unit
def AO(k:Int):Prop:=-9223372036854775808≤k∧k≤9223372036854775807
def fG(d:Tx)(k:Int):Tx:=if vV d=0 then(d.drop 7).take 24++[46]++Lib.itoa k else []
theorem AP{k:Int}(h:AO k):(Lib.itoa k).length≤21:=Lib.itoa_length_le k h.1 h.2
theorem DT{d:Tx}(h:vV d=0):d.length=71:=by
 unfold vV at h;by_cases q:d.length=71∧d.take 7=nu∧(fL (d.drop 7)).isSome=true
 ·exact q.1
 ·rw[cT q] at h;cases h
theorem Ix(d:Tx):sub d 7 (minus 31 7)=(d.drop 7).take 24:=rfl
theorem s7{d:Tx}(h:vV d=0):((d.drop 7).take 24).length=24:=by rw[iA,ou,DT h];rfl
theorem Mu{d:Tx}(h:vV d=0)(k:Int):fG d k≠[]:=by
 unfold fG;rw[ek h];intro e;have:=congrArg List.length e;rw[pM,pM,s7 h] at this;simp at this
theorem CC{d:Tx}{k:Int}(h:AO k):(fG d k).length≤50:=by
 unfold fG;by_cases q:vV d=0
 ·rw[ek q,pM,pM,s7 q];have:=AP h;simp only[kV,oX];omega
 ·rw[cT q];simp
theorem mC{d:Tx}{k:Int}(hd:d.length≤1048576)(hk:AO k):iU (d,(k,()))=some (fG d k,()):=by
 unfold iU fG;refine ob (JS d hd) ?_;dsimp only;by_cases h:vV d=0
 ·have PX:=DT h;have hs:=s7 h;have hi:=AP hk;rw[ek h,br h,aK,ag,cM (by decide) (by decide) (by unfold len;omega),af,Ix,lu (by rw[hs];simp),af];refine ob (Og k) ?_;dsimp only;rw[lu (by rw[L9,pM,hs];simp only[kV,oX];omega),af];rfl
 ·rw[cT h,aF h,aP,af]
theorem sy{d:Tx}{k:Int}(hd:d.length≤1048576)(hk:AO k):fZ (d,(k,()))=some (fG d k,()):=by
 unfold fZ fG;refine ob (DO d hd) ?_;dsimp only;by_cases h:vV d=0
 ·have PX:=DT h;have hs:=s7 h;have hi:=AP hk;rw[ek h,br h,aK,ag,cM (by decide) (by decide) (by unfold len;omega),af,Ix,lu (by rw[hs];simp),af];refine ob (Hy hk.1 hk.2) ?_;dsimp only;rw[lu (by rw[L9,pM,hs];simp only[kV,oX];omega),af];rfl
 ·rw[cT h,aF h,aP,af]
def xZ(d:Tx)(k:Int):Tx:=if fG d k=[] then [] else [98,108,111,98,47]++fG d k
theorem oe{d:Tx}{k:Int}(hd:d.length≤1048576)(hk:AO k):mj (d,(k,()))=some (xZ d k,()):=by
 unfold mj xZ;refine ob (mC hd hk) ?_;have hl:=CC (d:=d) hk;dsimp only;by_cases h:fG d k=[]
 ·rw[ek h,h,vO,aK,ag,aa]
 ·rw[cT h,ic h,aP,af,lu (by simp only[kV,oX];omega),af,aa];rfl
theorem mD{d:Tx}{k:Int}(hd:d.length≤1048576)(hk:AO k):nk (d,(k,()))=some (xZ d k,()):=by
 unfold nk xZ;refine ob (sy hd hk) ?_;have hl:=CC (d:=d) hk;dsimp only;by_cases h:fG d k=[]
 ·rw[ek h,h,vO,af]
 ·rw[cT h,ic h,ag,lu (by simp only[kV,oX];omega),af];rfl
def AQ(x:rD):Prop:=x.2.2.2.1.length≤1048576∧AO x.2.2.2.2.2.1
theorem Iy{c:s6}{d:xk}(h:rC m c d)(x:rD)(hx:AQ x):Alike m (dH ((x,()),(c,()))) (eA ((x,()),(d,()))):=by
 obtain⟨s,e,c1,d1,e1,f1,h1,hs⟩:=JX h (xZ x.2.2.2.1 x.2.2.2.2.2.1);by_cases q3:e=3
 ·refine⟨([],(15,())),c1,d1,?_,?_,h1⟩
  ·unfold dH;refine ob (oe hx.1 hx.2) ?_;refine ob e1 ?_;dsimp only;rw[br q3,aK,ag,aa,af]
  ·unfold eA;refine ob (mD hx.1 hx.2) ?_;refine ob f1 ?_;dsimp only;rw[br q3,af]
 by_cases q0:e=0
 rotate_left
 ·refine⟨([],(e,())),c1,d1,?_,?_,h1⟩
  ·unfold dH;refine ob (oe hx.1 hx.2) ?_;refine ob e1 ?_;dsimp only;rw[aF q3,aP,af,aF q0,ag,aa,aa,ag,aP,af]
  ·unfold eA;refine ob (mD hx.1 hx.2) ?_;refine ob f1 ?_;dsimp only;rw[aF q3,ag,aF q0,aP,af]
 by_cases ql:(s.length:Int)=x.2.2.2.2.1
 rotate_left
 ·refine⟨([],(15,())),c1,d1,?_,?_,h1⟩
  ·unfold dH;refine ob (oe hx.1 hx.2) ?_;refine ob e1 ?_;dsimp only;rw[aF q3,aP,af,br q0,af,show b9 (@len UInt8 s) x.2.2.2.2.1=false from aF ql,aP,aK,ag,aa,aa,aa,af]
  ·unfold eA;refine ob (mD hx.1 hx.2) ?_;refine ob f1 ?_;dsimp only;rw[aF q3,ag,br q0,aK,ag,show b9 (@len UInt8 s) x.2.2.2.2.1=false from aF ql,aP,af]
 by_cases qd:x.2.2.2.1=kI s
 ·refine⟨(s,(0,())),c1,d1,?_,?_,h1⟩
  ·unfold dH;refine ob (oe hx.1 hx.2) ?_;refine ob e1 ?_;dsimp only;rw[aF q3,aP,af,br q0,af,show b9 (@len UInt8 s) x.2.2.2.2.1=true from br ql,aK,aP,af,
    show jT (x.2.2.2.1,(s,()))=_ from Mq _ s (by omega),aa,Ba qd]
   rfl
  ·unfold eA;refine ob (mD hx.1 hx.2) ?_;refine ob f1 ?_;dsimp only;rw[aF q3,ag,br q0,aK,ag,show b9 (@len UInt8 s) x.2.2.2.2.1=true from br ql,aK,ag];refine ob (qc s (by omega)) ?_;dsimp only;rw[jB qd.symm,aK,ag]
 ·refine⟨([],(15,())),c1,d1,?_,?_,h1⟩
  ·unfold dH;refine ob (oe hx.1 hx.2) ?_;refine ob e1 ?_;dsimp only;rw[aF q3,aP,af,br q0,af,show b9 (@len UInt8 s) x.2.2.2.2.1=true from br ql,aK,aP,af,
    show jT (x.2.2.2.1,(s,()))=_ from Mq _ s (by omega),aa,yc qd]
   rfl
  ·unfold eA;refine ob (mD hx.1 hx.2) ?_;refine ob f1 ?_;dsimp only;rw[aF q3,ag,br q0,aK,ag,show b9 (@len UInt8 s) x.2.2.2.2.1=true from br ql,aK,ag];refine ob (qc s (by omega)) ?_;dsimp only;rw[ic (fun e=>qd e.symm),aP,af]
end Go.Ge
