/- Plain laws of what the functions compute: part 1. -/
import Derived.Test.YtdpbdiikloedbaaGreatDoorGeI
import Derived.Lib.Repeat
set_option linter.unusedSectionVars false
set_option linter.unusedVariables false
set_option linter.unusedSimpArgs false
noncomputable section
namespace Go.Ge
variable [Lp]
theorem jE{a b:Int}(h:-9223372036854775808≤a+b)(h2:a+b≤9223372036854775807):aD .i64 a b=a+b:=by
 unfold aD;simp[IntKind.wrap,IntKind.min,IntKind.max,IntKind.signed,IntKind.bits];omega
theorem kz{a b:Int}(h:-9223372036854775808≤a-b)(h2:a-b≤9223372036854775807):cL .i64 a b=a-b:=by
 unfold cL;simp[IntKind.wrap,IntKind.min,IntKind.max,IntKind.signed,IntKind.bits];omega
theorem FA{a b:Int}(h:-9223372036854775808≤a*b)(h2:a*b≤9223372036854775807):iZ .i64 a b=a*b:=by
 unfold iZ;simp[IntKind.wrap,IntKind.min,IntKind.max,IntKind.signed,IntKind.bits];omega
theorem Qz{a:Int}(h:-9223372036854775808≤a)(h2:a≤9223372036854775807):kT .i64 a=a:=by
 unfold kT;simp[IntKind.wrap,IntKind.min,IntKind.max,IntKind.signed,IntKind.bits];omega
theorem aet(a:Int):kT .u8 a=a % 256:=by
 unfold kT;simp[IntKind.wrap,IntKind.min,IntKind.max,IntKind.signed,IntKind.bits]
theorem wrap_u32(a:Int):IntKind.wrap .u32 a=a % 4294967296:=by
 simp[IntKind.wrap,IntKind.min,IntKind.max,IntKind.signed,IntKind.bits]
def Bv(x:Int):BitVec 32:=BitVec.ofInt 32 x
def Can(x:Int):Prop:=0≤x∧x<4294967296
theorem Te(a:Int):Can (IntKind.wrap .u32 a):=by rw[wrap_u32];unfold Can;omega
theorem vn(a:Int):((Bv a).toNat:Int)=a % 4294967296:=by
 unfold Bv;rw[BitVec.toNat_ofInt];have:0≤a % ((2 ^ 32:Nat):Int):=Int.emod_nonneg _ (by decide);rw[Y7 this];rfl
theorem acE{a b:Int}(ha:Can a)(hb:Can b)(h:Bv a=Bv b):a=b:=by
 have h1:=vn a;have h2:=vn b;rw[h] at h1;unfold Can at ha hb;omega
theorem KZ(a:Int):Bv (IntKind.wrap .u32 a)=Bv a:=by
 apply Y5;have h1:=vn a;have h2:=vn (IntKind.wrap .u32 a);rw[wrap_u32] at h2⊢;omega
theorem VD(v:BitVec 32):Bv (v.toNat:Int)=v:=by
 apply Y5;have h1:=vn (v.toNat:Int);have:=v.isLt;omega
theorem bv_and(x y:Int):Bv (ia .u32 x y)=Bv x &&& Bv y:=by unfold ia;rw[KZ];exact VD _
theorem WQ(x y:Int):Bv (zb .u32 x y)=Bv x ||| Bv y:=by unfold zb;rw[KZ];exact VD _
theorem aaz(x y:Int):Bv (dX .u32 x y)=Bv x ^^^ Bv y:=by unfold dX;rw[KZ];exact VD _
theorem Mu(x y:Int):Can (zb .u32 x y):=Te _
theorem QA(x y:Int):Can (dX .u32 x y):=Te _
theorem VE(x:Int)(n:Nat)(hn:n≤32):Bv (mU .u32 x n)=Bv x <<< n:=by
 unfold mU;rw[KZ];apply Y5;have h1:=vn (x*2 ^ (min (n:Int).toNat IntKind.u32.bits));have h2:=vn x;have e:min (n:Int).toNat IntKind.u32.bits=n:=by simp[IntKind.bits];omega
 rw[e] at h1⊢;rw[BitVec.toNat_shiftLeft,Nat.shiftLeft_eq];have h3:(((Bv x).toNat*2 ^ n % 2 ^ 32:Nat):Int)=(x*2 ^ n) % 4294967296:=by
  rw[Int.natCast_emod,Int.natCast_mul,h2,Int.natCast_pow];show(x % 4294967296*2 ^ n) % 4294967296=_
  rw[Int.mul_emod,Int.emod_emod_of_dvd _ (Int.dvd_refl _),←Int.mul_emod]
 omega
theorem VF(x y:Int):zb .u32 x y=zb .u32 y x:=acE (Mu _ _) (Mu _ _) (by rw[WQ,WQ,BitVec.or_comm])
theorem Tf(x y:Int):aD .u32 x y=aD .u32 y x:=by unfold aD;rw[Int.add_comm]
theorem afV(e f g:Int):dX .u32 g (ia .u32 e (dX .u32 f g))=dX .u32 (ia .u32 e f) (ia .u32 (dX .u32 4294967295 e) g):=by
 refine acE (QA _ _) (QA _ _) ?_;simp only[aaz,bv_and];have h:Bv 4294967295=BitVec.allOnes 32:=by decide
 rw[h]
 ext i hi
 simp only[BitVec.getElem_xor,BitVec.getElem_and,BitVec.getElem_allOnes];cases (Bv e)[i]<;>cases (Bv f)[i]<;>cases (Bv g)[i]<;>rfl
theorem aeu(a b c:Int):zb .u32 (ia .u32 a b) (ia .u32 c (zb .u32 a b))=dX .u32 (dX .u32 (ia .u32 a b) (ia .u32 a c)) (ia .u32 b c):=by
 refine acE (Mu _ _) (QA _ _) ?_;simp only[aaz,bv_and,WQ]
 ext i hi
 simp only[BitVec.getElem_xor,BitVec.getElem_and,BitVec.getElem_or];cases (Bv a)[i]<;>cases (Bv b)[i]<;>cases (Bv c)[i]<;>rfl
theorem acF(a b c d:Int):zb .u32 (mU .u32 (zb .u32 (mU .u32 (zb .u32 (mU .u32 (zb .u32 (mU .u32 0 8) a) 8) b) 8) c) 8) d=zb .u32 (zb .u32 (zb .u32 (mU .u32 a 24) (mU .u32 b 16)) (mU .u32 c 8)) d:=by
 refine acE (Mu _ _) (Mu _ _) ?_;have s8:∀x,Bv (mU .u32 x 8)=Bv x <<< 8:=fun x=>VE x 8 (by decide);have s16:∀x,Bv (mU .u32 x 16)=Bv x <<< 16:=fun x=>VE x 16 (by decide);have s24:∀x,Bv (mU .u32 x 24)=Bv x <<< 24:=fun x=>VE x 24 (by decide);simp only[WQ,s8,s16,s24];have z:Bv 0=0#32:=by decide
 rw[z];simp[BitVec.shiftLeft_or_distrib,←BitVec.shiftLeft_add]
theorem b7{a b:Int}(h:a<b):aX a b=true:=by simp[aX,h]
theorem bM{a b:Int}(h:b≤a):aX a b=false:=by simp[aX];omega
theorem pJ{a b:Int}(h:a≤b):cK a b=true:=by simp[cK,h]
theorem CA{a b:Int}(h:b<a):cK a b=false:=by simp[cK];omega
theorem dO{a b:Int}(h:a=b):bI a b=true:=by simp[bI,h]
theorem bN{a b:Int}(h:a≠b):bI a b=false:=by simp[bI,h]
theorem bQ{i n:Int}(h0:0≤i)(h1:i<n):within i n=true:=by simp[within,h0,h1]
theorem cR{i j n:Int}(h0:0≤i)(h1:i≤j)(h2:j≤n):inside i j n=true:=by simp[inside,h0,h1,h2]
theorem kN{n:Int}(h:n≤4294967296):fits n=true:=by simp[fits,h]
theorem eg{S:Type}(s:S):cM (some (.inl s:S⊕(Nat×S)))=some (.inl s):=rfl
theorem eG{S:Type}(n:Nat)(s:S):cM (some (.inr (n,s):S⊕(Nat×S)))=some (.inr s):=rfl
theorem eX{α:Type}(l:List α)(d:α){i:Nat}(h:i<l.length):idx l (i:Int)=some (l.getD i d):=by
 rw[Cz,ru h,RF,ru h];rfl
theorem kY{α:Type}(l:List α)(d:α){i:Int}{k:Nat}(e:i=k)(h:k<l.length):idx l i=some (l.getD k d):=by subst e;exact eX l d h
theorem pK{α:Type}(l:List α)(i:Nat)(x:α):nq l (i:Int) x=l.set i x:=by simp[nq]
end Go.Ge
namespace Go.Ge
variable [Lp]
theorem K1{α:Type}(i:Nat)(l:List α):aX (i:Int) (len l)=decide (i<l.length):=by simp[aX,len]
theorem FB{α:Type}(l:List α):aX (0:Int) (len l)=decide (0<l.length):=K1 0 l
theorem acG{α:Type}(i:Nat)(l:List α):cK (len l) (i:Int)=decide (l.length≤i):=by simp[cK,len]
theorem aaA{α β:Type}(l:List α)(m:List β):cK (len l) (len m)=decide (l.length≤m.length):=by simp[cK,len]
theorem aaB{α β:Type}(l:List α)(m:List β):bI (len l) (len m)=decide (l.length=m.length):=by unfold bI len;apply decide_eq_decide.2;omega
theorem gD{α β:Type}{l:List α}{m:List β}(h:l.length+m.length≤4294967296):fits (plus (len l) (len m))=true:=by
 apply kN;simp only[plus,len];omega
theorem mW{α:Type}(c:Bool)(x y:α):aq c x y=if c=true then x else y:=by cases c<;>rfl
theorem HA{a b:List UInt8}(h:a≠b):bX a b=false:=by simp[bX,h]
theorem FC{a b:List UInt8}(h:a=b):bX a b=true:=by simp[bX,h]
theorem Tg{α:Type}(l:List α)(n:Nat):sub l 0 (minus (n:Int) 0)=l.take n:=by
 unfold sub minus;simp
theorem XW{α β:Type}(l:List α)(m:List β):sub l 0 (minus (len m) 0)=l.take m.length:=Tg l m.length
theorem aaC{α:Type}(l:List α)(n:Nat)(h:n≤l.length):sub l (n:Int) (minus (len l) (n:Int))=l.drop n:=by
 unfold sub minus len;rw[zg];apply Ny;rw[w8];omega
theorem vo:eY 0 0=true:=rfl
theorem acH:eY 1 0=false:=rfl
theorem bw{α:Type}{l:List α}{i:Nat}{x:α}(h:l[i]?=some x):i<l.length:=(List.getElem?_eq_some_iff.1 h).1
theorem sub_one{α:Type}{l:List α}{i:Nat}{x:α}(h:l[i]?=some x):sub l (i:Int) (minus ((i+1:Nat):Int) (i:Int))=[x]:=by
 unfold sub minus;rw[show((i+1:Nat):Int)-(i:Int)=1 by omega,zg];obtain⟨hi,rfl⟩:=List.getElem?_eq_some_iff.1 h;rw[Y1 hi];rfl
theorem aS{α:Type}{l:List α}{i:Nat}{x:α}(h:l[i]?=some x):idx l (i:Int)=some x:=by rw[Cz,h]
theorem aK{α:Type}{l:List α}{i:Nat}(h:i<l.length):aX (i:Int) (len l)=true:=by rw[K1,kj h]
theorem aZ{α:Type}{l:List α}:aX (l.length:Int) (len l)=false:=by rw[K1,mu (by omega)]
theorem WR(b:Bool):nt b=!b:=rfl
theorem VG{α:Type}(l:List α):len l=(l.length:Int):=rfl
end Go.Ge
namespace Go.Ge
variable [Lp]
theorem Mv(x:List UInt8):ql x []=false:=by cases x<;>simp[ql,Op.bytesLess]
theorem Th(a b:UInt8)(x y:List UInt8):ql (a::x) (b::y)=(decide (a<b)||(a==b&&ql x y)):=by simp[ql,Op.bytesLess]
theorem XX(a:UInt8):¬a<a:=UInt8.lt_irrefl a
theorem vp:∀x:List UInt8,ql x x=false:=by
 intro x;induction x with
 | nil=>rfl
 | cons a x ih=>rw[Th,ih];simp[XX]
theorem XY:∀{x y z:List UInt8},ql x y=true→ql y z=true→ql x z=true:=by
 intro x;induction x with
 | nil =>
   intro y z h k;cases z with
   | nil=>rw[Mv] at k;cases k
   | cons c z=>rfl
 | cons a x ih =>
   intro y z h k;cases y with
   | nil=>rw[Mv] at h;cases h
   | cons b y =>
     cases z with
     | nil=>rw[Mv] at k;cases k
     | cons c z =>
       rw[Th] at h k⊢;simp only[EK,zf,dW,beq_iff_eq] at h k⊢;rcases h with h|⟨rfl,h⟩
       ·rcases k with k|⟨rfl,k⟩
        ·exact .inl (UInt8.lt_trans h k)
        ·exact .inl h
       ·rcases k with k|⟨rfl,k⟩
        ·exact .inl k
        ·exact .inr ⟨rfl,ih h k⟩
theorem aev{x y:List UInt8}(h:ql x y=true):x≠y:=fun e=>by rw[e,vp] at h;cases h
def cmpL:List (List UInt8)→List (List UInt8)→Int
 | [],[]=>0
 | [],_::_=>-1
 | _::_,[]=>1
 | a::x,b::y=>if a=b then cmpL x y else if ql a b=true then -1 else 1
theorem VH:∀{x y z},cmpL x y<0→cmpL y z<0→cmpL x z<0:=by
 intro x;induction x with
 | nil =>
   intro y z h k;cases z with
   | nil=>cases y with|nil=>exact absurd k (by simp[cmpL])|cons b y=>exact absurd k (by simp[cmpL])
   | cons c z=>exact(by decide:(-1:Int)<0)
 | cons a x ih =>
   intro y z h k;cases y with
   | nil=>exact absurd h (by simp[cmpL])
   | cons b y =>
     cases z with
     | nil=>exact absurd k (by simp[cmpL])
     | cons c z =>
       rw[cmpL] at h k⊢;by_cases e:a=b
       ·subst e;rw[bG rfl] at h;by_cases e2:a=c
        ·subst e2;rw[bG rfl] at k⊢;exact ih h k
        ·rw[bH e2] at k⊢;exact k
       ·rw[bH e] at h;have hab:ql a b=true:=by
         cases q:ql a b with
         | true=>rfl
         | false=>rw[q,bH (by simp)] at h;exact absurd h (by decide)
        by_cases e2:b=c
        ·subst e2;rw[bH e];exact h
        ·rw[bH e2] at k;have hbc:ql b c=true:=by
          cases q:ql b c with
          | true=>rfl
          | false=>rw[q,bH (by simp)] at k;exact absurd k (by decide)
         have hac:=XY hab hbc;rw[bH (aev hac),bG hac];decide
end Go.Ge
namespace Go.Ge
variable [Lp]
theorem aaD{α:Type}(l:List α)(p:Nat→α→Bool) :
  (∃i x,l[i]?=some x∧p i x=true∧∀j y,j<i→l[j]?=some y→p j y=false)∨∀i x,l[i]?=some x→p i x=false:=by
 by_cases h:∃i x,l[i]?=some x∧p i x=true
 ·left;have key:∀n i x,i≤n→l[i]?=some x→p i x=true→∃i x,l[i]?=some x∧p i x=true∧∀j y,j<i→l[j]?=some y→p j y=false:=by
   intro n;induction n with
   | zero =>
     intro i x hi hx hp;obtain rfl:i=0:=by omega
     exact⟨0,x,hx,hp,fun j y hj=>by omega⟩
   | succ n ih =>
     intro i x hi hx hp;by_cases k:∃j y,j<i∧l[j]?=some y∧p j y=true
     ·obtain⟨j,y,hj,hy,hq⟩:=k;exact ih j y (by omega) hy hq
     ·refine⟨i,x,hx,hp,fun j y hj hy=>?_⟩;cases hq:p j y with
      | false=>rfl
      | true=>exact absurd ⟨j,y,hj,hy,hq⟩ k
  obtain⟨i,x,hx,hp⟩:=h;exact key i i x (mq _) hx hp
 ·right;intro i x hx;cases hq:p i x with
  | false=>rfl
  | true=>exact absurd ⟨i,x,hx,hq⟩ h
theorem xA{α S R:Type}{f:S→Option (S⊕R)}(l:List α)(mk:Int→S)(p:Nat→α→Bool)(XZ:Nat→α→R)(X0:R)(hl:l.length≤4294967296)
  (hstep:∀i x,l[i]?=some x→i<l.length→aD .i64 (i:Int) 1=((i+1:Nat):Int)→f (mk (i:Int))=some (if p i x=true then .inr (XZ i x) else .inl (mk ((i+1:Nat):Int))))
  (VI:f (mk (l.length:Int))=some (.inr X0)) :
  (∃i x,l[i]?=some x∧p i x=true∧(∀j y,j<i→l[j]?=some y→p j y=false)∧Loop f (mk 0)=some (XZ i x))∨((∀i x,l[i]?=some x→p i x=false)∧Loop f (mk 0)=some X0):=by
 have adv:∀i x,l[i]?=some x→p i x=false→f (mk (i:Int))=some (.inl (mk ((i+1:Nat):Int))):=fun i x hx hp=>by
  have hi:=bw hx;rw[hstep i x hx hi (cG (by omega)),hp];rfl
 rcases aaD l p with ⟨i,x,hx,hp,hj⟩|hn
 ·left;refine⟨i,x,hx,hp,hj,?_⟩;have hi:=bw hx;refine dw i (fun j:Nat=>mk (j:Int)) (fun j hji=>?_) ?_
  ·have hjl:j<l.length:=by omega
   exact adv j l[j] (ru hjl) (hj j _ hji (ru hjl))
  ·rw[hstep i x hx hi (cG (by omega)),hp];rfl
 ·right;refine⟨hn,dw l.length (fun j:Nat=>mk (j:Int)) (fun j hj=>?_) VI⟩;exact adv j l[j] (ru hj) (hn j _ (ru hj))
theorem qS{α S R:Type}{f:S→Option (S⊕R)}(l:List α)(n:Nat)(mk:Int→S)(p:Nat→α→Bool)(XZ:Nat→α→R)(X0:Nat→R)(hl:min n l.length≤4294967296)
  (hstep:∀i x,l[i]?=some x→i<l.length→i<n→aD .i64 (i:Int) 1=((i+1:Nat):Int)→f (mk (i:Int))=some (if p i x=true then .inr (XZ i x) else .inl (mk ((i+1:Nat):Int))))
  (VI:f (mk ((min n l.length:Nat):Int))=some (.inr (X0 (min n l.length)))) :
  (∃i x,i<n∧l[i]?=some x∧p i x=true∧(∀j y,j<i→l[j]?=some y→p j y=false)∧Loop f (mk 0)=some (XZ i x))∨((∀i x,i<n→l[i]?=some x→p i x=false)∧Loop f (mk 0)=some (X0 (min n l.length))):=by
 have ht:∀i x,(l.take n)[i]?=some x↔(i<n∧l[i]?=some x):=fun i x=>by
  rw[uo];by_cases h:i<n
  ·simp[h]
  ·simp[h]
 have hlen:(l.take n).length=min n l.length:=o6;rcases xA (f:=f) (l.take n) mk p XZ (X0 (min n l.length)) (by rw[hlen];exact hl) (fun i x hx hi Ti=>by
  obtain⟨h1,h2⟩:=(ht i x).1 hx;exact hstep i x h2 (bw h2) h1 Ti) (by rw[hlen];exact VI) with ⟨i,x,hx,hp,hj,h⟩|⟨hn,h⟩
 ·obtain⟨h1,h2⟩:=(ht i x).1 hx;exact .inl ⟨i,x,h1,h2,hp,fun j y hji hy=>hj j y hji ((ht j y).2 ⟨by omega,hy⟩),h⟩
 ·exact .inr ⟨fun i x hi hx=>hn i x ((ht i x).2 ⟨hi,hx⟩),h⟩
theorem X1{α σ S R:Type}{f:S→Option (S⊕R)}(l:List α)(mk:σ→Int→S)(step:σ→Nat→α→σ)(fin:σ→R)(Inv:σ→Nat→Prop)(hl:l.length≤4294967296)
  (hstep:∀s i x,l[i]?=some x→i<l.length→aD .i64 (i:Int) 1=((i+1:Nat):Int)→Inv s i→f (mk s (i:Int))=some (.inl (mk (step s i x) ((i+1:Nat):Int)))∧Inv (step s i x) (i+1))
  (VI:∀s,Inv s l.length→f (mk s (l.length:Int))=some (.inr (fin s))) (s:σ) (h0:Inv s 0):∃t,Inv t l.length∧Loop f (mk s 0)=some (fin t)∧t=(l.zipIdx).foldl (fun a p=>step a p.2 p.1) s:=by
 have key:∀(rest pre:List α) (s:σ),l=pre++rest→Inv s pre.length→∃t,Inv t l.length∧Loop f (mk s (pre.length:Int))=some (fin t)∧t=(rest.zipIdx pre.length).foldl (fun a p=>step a p.2 p.1) s:=by
  intro rest;induction rest with
  | nil =>
    intro pre s KP hI;rw[G0] at KP;subst KP;exact⟨s,hI,by rw[jo,VI s hI];rfl,rfl⟩
  | cons x r ih =>
    intro pre s KP hI;have hx:l[pre.length]?=some x:=by rw[KP];simp
    have hlt:=bw hx;obtain⟨h1,h2⟩:=hstep s pre.length x hx hlt (cG (by omega)) hI;obtain⟨t,t1,t2,t3⟩:=ih (pre++[x]) (step s pre.length x) (by rw[KP];simp) (by rw[uV];exact h2);rw[uV] at t2 t3;exact⟨t,t1,by rw[jo,h1];exact t2,t3⟩
 exact key l [] s rfl h0
theorem vq{α β S R:Type}{f:S→Option (S⊕R)}(l:List α)(mk:List β→Int→S)(g:α→List β)(fin:R)(hl:l.length≤4294967296)
  (hstep:∀i x,l[i]?=some x→i<l.length→aD .i64 (i:Int) 1=((i+1:Nat):Int)→f (mk ((l.take i).flatMap g) (i:Int))=some (.inl (mk ((l.take i).flatMap g++g x) ((i+1:Nat):Int))))
  (VI:f (mk (l.flatMap g) (l.length:Int))=some (.inr fin)):Loop f (mk [] 0)=some fin:=by
 refine dw l.length (fun j:Nat=>mk ((l.take j).flatMap g) (j:Int)) (fun j hj=>?_) (by simp only[RJ];exact VI);have hx:l[j]?=some l[j]:=ru hj;have:=hstep j l[j] hx hj (cG (by omega));rw[this,Xi,hx,List.flatMap_append];simp
theorem yG{α:Type}{l:List α}(h:l.length≤4294967296):fits (len l)=true:=XR h
theorem cm{α:Type}{l:List α}{x:α}:x∈l↔∃i:Nat,l[i]?=some x:=by rw[List.mem_iff_getElem?]
end Go.Ge
namespace Go.Ge
abbrev Sb:=List UInt8
variable [Lp]
def iG:(Ty.pair .str (.pair (.int .u8) .unit)).den→Option (Ty.pair (.int .i64) .unit).den:=fun x=>some (Lib.indexByte x.1 (show Int from x.2.1).toNat.toUInt8,())
def e9(s:List UInt8)(c:Int):Option (List UInt8):=if c<0∨140737488355328<s.length*c.toNat then none else some (Lib.repeatL s c.toNat)
def mE:(List UInt8)×Int×Unit→Option ((List UInt8)×Unit):=fun x=>(e9 x.1 x.2.1).map fun y=>(y,())
theorem qu{s:List UInt8}{c:Int}{y:List UInt8}(h:e9 s c=some y):0≤c∧s.length*c.toNat≤140737488355328∧y=Lib.repeatL s c.toNat:=by
 unfold e9 at h;split at h
 ·cases h
 ·next hn =>
  have:=aG h;exact⟨by omega,by omega,this.symm⟩
theorem Bq{s:List UInt8}{c:Int}{y:List UInt8}(h:e9 s c=some y):y.length≤maxLen:=by
 obtain⟨_,h2,rfl⟩:=qu h;rw[Lib.repeatL_length,RR];exact jl h2 (by decide)
def Au:(List UInt8)×(List UInt8)×Unit→Option ((List (List UInt8))×Unit):=fun x=>(KY x.1 x.2.1).map fun y=>(y,())
def Br:(List (List UInt8))×(List UInt8)×Unit→Option ((List UInt8)×Unit):=fun x=>(Qx x.1 x.2.1).map fun y=>(y,())
end Go.Ge
namespace Go.Ge
variable [Lp]
set_option maxRecDepth 100000
abbrev lD:=((Bool×(List (Int))×Unit)×(List (Int))×Int×Unit)
abbrev fc:=((Int×Unit)×(List (Int))×Unit)
abbrev yH:=(Int×Int×Int×Int×Int×Int×Int×Int×Int×Unit)
abbrev vU:=((Nat×(Int×Unit)×(List (Int))×Unit))
abbrev Tj:=(Bool×(List (Int))×Unit)
abbrev Mw:=((List (Int))×Unit)
abbrev aaE:=((Unit×Int×Unit)×(List (Int))×Unit)
abbrev aaF:=((Unit×Unit)×(List (Int))×Unit)
abbrev aaG:=((Int×Unit)×Tj×Unit)
abbrev aaH:=((Int×Unit)×lD×Unit)
def oN(x:Unit):Option Mw :=
 some (([(1779033703:Int),(3144134277:Int),(1013904242:Int),(2773480762:Int),(1359893119:Int),(2600822924:Int),(528734635:Int),(1541459225:Int)]:List (Int)),())
def wz(x:Unit):Option Mw :=
 some (([(1116352408:Int),(1899447441:Int),(3049323471:Int),(3921009573:Int),(961987163:Int),(1508970993:Int),(2453635748:Int),(2870763221:Int),(3624381080:Int),(310598401:Int),(607225278:Int),(1426881987:Int),(1925078388:Int),(2162078206:Int),(2614888103:Int),(3248222580:Int),(3835390401:Int),(4022224774:Int),(264347078:Int),(604807628:Int),(770255983:Int),(1249150122:Int),(1555081692:Int),(1996064986:Int),(2554220882:Int),(2821834349:Int),(2952996808:Int),(3210313671:Int),(3336571891:Int),(3584528711:Int),(113926993:Int),(338241895:Int),(666307205:Int),(773529912:Int),(1294757372:Int),(1396182291:Int),(1695183700:Int),(1986661051:Int),(2177026350:Int),(2456956037:Int),(2730485921:Int),(2820302411:Int),(3259730800:Int),(3345764771:Int),(3516065817:Int),(3600352804:Int),(4094571909:Int),(275423344:Int),(430227734:Int),(506948616:Int),(659060556:Int),(883997877:Int),(958139571:Int),(1322822218:Int),(1537002063:Int),(1747873779:Int),(1955562222:Int),(2024104815:Int),(2227730452:Int),(2361852424:Int),(2428436474:Int),(2756734187:Int),(3204031479:Int),(3329325298:Int)]:List (Int)),())
def je(x:Int×Int×Unit):Option (Int×Unit) :=
 aq (aX (ia IntKind.u64 (kT IntKind.u64 x.2.1) (31:Int)) (0:Int))
 none
 (aq (aX (cL IntKind.u64 (32:Int) (ia IntKind.u64 (kT IntKind.u64 x.2.1) (31:Int))) (0:Int))
 none
 (some (zb IntKind.u32 (mU IntKind.u32 x.1 (ia IntKind.u64 (kT IntKind.u64 x.2.1) (31:Int))) (jS IntKind.u32 x.1 (cL IntKind.u64 (32:Int) (ia IntKind.u64 (kT IntKind.u64 x.2.1) (31:Int)))),())))
def bz(x:Int×Int×Unit):Option (Int×Unit) :=
 aa (je (x.1,(cL IntKind.i64 (0:Int) x.2.1,()))) (fun(y1:Int×Unit)=>some (y1.1,()))
def iH(x:(List (Int))×Unit)(y1:(Int×Unit)×(List (Int))×Unit)(y2:(Int×Unit)×(List (Int))×Unit):Option (fc⊕fc) :=
 @cM fc (aq (aX y2.1.1 (minus (aD IntKind.i64 (iZ IntKind.i64 (4:Int) y1.1.1) (4:Int)) (iZ IntKind.i64 (4:Int) y1.1.1)))
 (aq (within y2.1.1 (minus (aD IntKind.i64 (iZ IntKind.i64 (4:Int) y1.1.1) (4:Int)) (iZ IntKind.i64 (4:Int) y1.1.1)))
 (aa (@idx Int x.1 (plus (iZ IntKind.i64 (4:Int) y1.1.1) y2.1.1)) (fun(y3:Int)=>aq (within y1.1.1 (64:Int))
 (aa (@idx Int y2.2.1 y1.1.1) (fun(y4:Int)=>aq (aX (8:Int) (0:Int))
 none
 (aq (within y1.1.1 (64:Int))
 (aa (@idx Int y2.2.1 y1.1.1) (fun(y5:Int)=>aa (@idx Int y2.2.1 y1.1.1) (fun(y6:Int)=>aa (@idx Int y2.2.1 y1.1.1) (fun(y7:Int)=>some (Sum.inl ((aD IntKind.i64 y2.1.1 (1:Int),()),(@nq Int y2.2.1 y1.1.1 (zb IntKind.u32 (mU IntKind.u32 y4 (8:Int)) (kT IntKind.u32 y3)),())):(fc)⊕vU)))))
 none)))
 none))
 none)
 (some (Sum.inr ((0:Nat),((y2.1.1,()),(y2.2.1,()))):(fc)⊕vU)))
def iI(x:(List (Int))×Unit)(y1:(Int×Unit)×(List (Int))×Unit):Option (fc⊕fc) :=
 @cM fc (aq (aX y1.1.1 (16:Int))
 (aq (inside (iZ IntKind.i64 (4:Int) y1.1.1) (aD IntKind.i64 (iZ IntKind.i64 (4:Int) y1.1.1) (4:Int)) (64:Int))
 (aa (Loop (iH x y1) (((0:Int),()),(y1.2.1,()))) (fun(y2:(Int×Unit)×(List (Int))×Unit)=>some (Sum.inl ((aD IntKind.i64 y1.1.1 (1:Int),()),(y2.2.1,())):(fc)⊕vU)))
 none)
 (some (Sum.inr ((0:Nat),((y1.1.1,()),(y1.2.1,()))):(fc)⊕vU)))
def iJ(y2:(Int×Unit)×(List (Int))×Unit):Option (fc⊕fc) :=
 @cM fc (aq (aX y2.1.1 (64:Int))
 (aq (within (cL IntKind.i64 y2.1.1 (2:Int)) (64:Int))
 (aa (@idx Int y2.2.1 (cL IntKind.i64 y2.1.1 (2:Int))) (fun(y3:Int)=>aq (within (cL IntKind.i64 y2.1.1 (15:Int)) (64:Int))
 (aa (@idx Int y2.2.1 (cL IntKind.i64 y2.1.1 (15:Int))) (fun(y4:Int)=>aa (bz (y4,((7:Int),()))) (fun(y5:Int×Unit)=>aa (bz (y4,((18:Int),()))) (fun(y6:Int×Unit)=>aq (aX (3:Int) (0:Int))
 none
 (aa (bz (y3,((17:Int),()))) (fun(y7:Int×Unit)=>aa (bz (y3,((19:Int),()))) (fun(y8:Int×Unit)=>aq (aX (10:Int) (0:Int))
 none
 (aq (within (cL IntKind.i64 y2.1.1 (7:Int)) (64:Int))
 (aa (@idx Int y2.2.1 (cL IntKind.i64 y2.1.1 (7:Int))) (fun(y9:Int)=>aq (within (cL IntKind.i64 y2.1.1 (16:Int)) (64:Int))
 (aa (@idx Int y2.2.1 (cL IntKind.i64 y2.1.1 (16:Int))) (fun(qv:Int)=>aq (within y2.1.1 (64:Int))
 (aa (@idx Int y2.2.1 y2.1.1) (fun(nR:Int)=>aa (@idx Int y2.2.1 y2.1.1) (fun(jq:Int)=>aa (@idx Int y2.2.1 y2.1.1) (fun(gq:Int)=>some (Sum.inl ((aD IntKind.i64 y2.1.1 (1:Int),()),(@nq Int y2.2.1 y2.1.1 (aD IntKind.u32 (aD IntKind.u32 (aD IntKind.u32 (dX IntKind.u32 (dX IntKind.u32 y7.1 y8.1) (jS IntKind.u32 y3 (10:Int))) y9) (dX IntKind.u32 (dX IntKind.u32 y5.1 y6.1) (jS IntKind.u32 y4 (3:Int)))) qv),())):(fc)⊕vU)))))
 none))
 none))
 none))))))))
 none))
 none)
 (some (Sum.inr ((0:Nat),((y2.1.1,()),(y2.2.1,()))):(fc)⊕vU)))
def lS(x:(List (Int))×Unit):Option Mw :=
 aa (Loop (iI x) (((0:Int),()),(([(0:Int),(0:Int),(0:Int),(0:Int),(0:Int),(0:Int),(0:Int),(0:Int),(0:Int),(0:Int),(0:Int),(0:Int),(0:Int),(0:Int),(0:Int),(0:Int),(0:Int),(0:Int),(0:Int),(0:Int),(0:Int),(0:Int),(0:Int),(0:Int),(0:Int),(0:Int),(0:Int),(0:Int),(0:Int),(0:Int),(0:Int),(0:Int),(0:Int),(0:Int),(0:Int),(0:Int),(0:Int),(0:Int),(0:Int),(0:Int),(0:Int),(0:Int),(0:Int),(0:Int),(0:Int),(0:Int),(0:Int),(0:Int),(0:Int),(0:Int),(0:Int),(0:Int),(0:Int),(0:Int),(0:Int),(0:Int),(0:Int),(0:Int),(0:Int),(0:Int),(0:Int),(0:Int),(0:Int),(0:Int)]:List (Int)),()))) (fun(y1:(Int×Unit)×(List (Int))×Unit)=>aa (Loop (iJ) (((16:Int),()),(y1.2.1,()))) (fun(y2:(Int×Unit)×(List (Int))×Unit)=>some (y2.2.1,())))
def Bs(y2:(List (Int))×Unit)(y3:(List (Int))×Unit)(jq:yH×Unit):Option ((yH×Unit)⊕(yH×Unit)) :=
 @cM (yH×Unit) (aq (aX jq.1.2.2.2.2.2.2.2.2.1 (64:Int))
 (aa (bz (jq.1.2.2.2.2.1,((6:Int),()))) (fun(gq:Int×Unit)=>aa (bz (jq.1.2.2.2.2.1,((11:Int),()))) (fun(AW:Int×Unit)=>aa (bz (jq.1.2.2.2.2.1,((25:Int),()))) (fun(Pq:Int×Unit)=>aq (within jq.1.2.2.2.2.2.2.2.2.1 (64:Int))
 (aa (@idx Int y2.1 jq.1.2.2.2.2.2.2.2.2.1) (fun(YO:Int)=>aq (within jq.1.2.2.2.2.2.2.2.2.1 (64:Int))
 (aa (@idx Int y3.1 jq.1.2.2.2.2.2.2.2.2.1) (fun(RC:Int)=>aa (bz (jq.1.1,((2:Int),()))) (fun(y18:Int×Unit)=>aa (bz (jq.1.1,((13:Int),()))) (fun(VJ:Int×Unit)=>aa (bz (jq.1.1,((22:Int),()))) (fun(Ul:Int×Unit)=>some (Sum.inl ((aD IntKind.u32 (aD IntKind.u32 (aD IntKind.u32 (aD IntKind.u32 (aD IntKind.u32 jq.1.2.2.2.2.2.2.2.1 (dX IntKind.u32 (dX IntKind.u32 gq.1 AW.1) Pq.1)) (dX IntKind.u32 jq.1.2.2.2.2.2.2.1 (ia IntKind.u32 jq.1.2.2.2.2.1 (dX IntKind.u32 jq.1.2.2.2.2.2.1 jq.1.2.2.2.2.2.2.1)))) YO) RC) (aD IntKind.u32 (dX IntKind.u32 (dX IntKind.u32 y18.1 VJ.1) Ul.1) (zb IntKind.u32 (ia IntKind.u32 jq.1.1 jq.1.2.1) (ia IntKind.u32 jq.1.2.2.1 (zb IntKind.u32 jq.1.1 jq.1.2.1)))),(jq.1.1,(jq.1.2.1,(jq.1.2.2.1,(aD IntKind.u32 jq.1.2.2.2.1 (aD IntKind.u32 (aD IntKind.u32 (aD IntKind.u32 (aD IntKind.u32 jq.1.2.2.2.2.2.2.2.1 (dX IntKind.u32 (dX IntKind.u32 gq.1 AW.1) Pq.1)) (dX IntKind.u32 jq.1.2.2.2.2.2.2.1 (ia IntKind.u32 jq.1.2.2.2.2.1 (dX IntKind.u32 jq.1.2.2.2.2.2.1 jq.1.2.2.2.2.2.2.1)))) YO) RC),(jq.1.2.2.2.2.1,(jq.1.2.2.2.2.2.1,(jq.1.2.2.2.2.2.2.1,(aD IntKind.i64 jq.1.2.2.2.2.2.2.2.2.1 (1:Int),()))))))))),()):((yH×Unit))⊕((Nat×yH×Unit))))))))
 none))
 none))))
 (some (Sum.inr ((0:Nat),((jq.1.1,(jq.1.2.1,(jq.1.2.2.1,(jq.1.2.2.2.1,(jq.1.2.2.2.2.1,(jq.1.2.2.2.2.2.1,(jq.1.2.2.2.2.2.2.1,(jq.1.2.2.2.2.2.2.2.1,(jq.1.2.2.2.2.2.2.2.2.1,()))))))))),())):((yH×Unit))⊕((Nat×yH×Unit)))))
def Bt(jq:yH×Unit)(gq:(Int×Unit)×Tj×Unit):Option (aaG⊕aaG) :=
 @cM aaG (aq (aX gq.1.1 (8:Int))
 (aa (@idx Int ([jq.1.1,jq.1.2.1,jq.1.2.2.1,jq.1.2.2.2.1,jq.1.2.2.2.2.1,jq.1.2.2.2.2.2.1,jq.1.2.2.2.2.2.2.1,jq.1.2.2.2.2.2.2.2.1]:List (Int)) gq.1.1) (fun(AW:Int)=>aq (within gq.1.1 (8:Int))
 (aa (@idx Int gq.2.1.2.1 gq.1.1) (fun(Pq:Int)=>aq (within gq.1.1 (8:Int))
 (aa (@idx Int gq.2.1.2.1 gq.1.1) (fun(YO:Int)=>aa (@idx Int gq.2.1.2.1 gq.1.1) (fun(RC:Int)=>aa (@idx Int gq.2.1.2.1 gq.1.1) (fun(y18:Int)=>some (Sum.inl ((aD IntKind.i64 gq.1.1 (1:Int),()),((gq.2.1.1,(@nq Int gq.2.1.2.1 gq.1.1 (aD IntKind.u32 Pq AW),gq.2.1.2.2)),())):(aaG)⊕((Nat×(Int×Unit)×Tj×Unit)))))))
 none))
 none))
 (some (Sum.inr ((0:Nat),((gq.1.1,()),(gq.2.1,()))):(aaG)⊕((Nat×(Int×Unit)×Tj×Unit)))))
def FD(x:Mw×Tj×Unit):Option (Unit×Tj×Unit) :=
 aa (aq (nt x.2.1.1)
 (aa (oN ()) (fun(y1:(List (Int))×Unit)=>some ((),((true,(y1.1,x.2.1.2.2)),()))))
 (some ((),(x.2.1,())))) (fun(y1:Unit×Tj×Unit)=>aa (wz ()) (fun(y2:(List (Int))×Unit)=>aa (lS (x.1.1,())) (fun(y3:(List (Int))×Unit)=>aq (within (0:Int) (8:Int))
 (aa (@idx Int y1.2.1.2.1 (0:Int)) (fun(y4:Int)=>aq (within (1:Int) (8:Int))
 (aa (@idx Int y1.2.1.2.1 (1:Int)) (fun(y5:Int)=>aq (within (2:Int) (8:Int))
 (aa (@idx Int y1.2.1.2.1 (2:Int)) (fun(y6:Int)=>aq (within (3:Int) (8:Int))
 (aa (@idx Int y1.2.1.2.1 (3:Int)) (fun(y7:Int)=>aq (within (4:Int) (8:Int))
 (aa (@idx Int y1.2.1.2.1 (4:Int)) (fun(y8:Int)=>aq (within (5:Int) (8:Int))
 (aa (@idx Int y1.2.1.2.1 (5:Int)) (fun(y9:Int)=>aq (within (6:Int) (8:Int))
 (aa (@idx Int y1.2.1.2.1 (6:Int)) (fun(qv:Int)=>aq (within (7:Int) (8:Int))
 (aa (@idx Int y1.2.1.2.1 (7:Int)) (fun(nR:Int)=>aa (Loop (Bs y2 y3) ((y4,(y5,(y6,(y7,(y8,(y9,(qv,(nR,((0:Int),()))))))))),())) (fun(jq:yH×Unit)=>aa (Loop (Bt jq) (((0:Int),()),(y1.2.1,()))) (fun(gq:(Int×Unit)×Tj×Unit)=>some ((),(gq.2.1,()))))))
 none))
 none))
 none))
 none))
 none))
 none))
 none))
 none)))
def eN(y3:(List (Int))×Unit)(y4:(List (Int))×Unit)(gq:yH×Unit):Option ((yH×Unit)⊕(yH×Unit)) :=
 @cM (yH×Unit) (aq (aX gq.1.2.2.2.2.2.2.2.2.1 (64:Int))
 (aa (bz (gq.1.2.2.2.2.1,((6:Int),()))) (fun(AW:Int×Unit)=>aa (bz (gq.1.2.2.2.2.1,((11:Int),()))) (fun(Pq:Int×Unit)=>aa (bz (gq.1.2.2.2.2.1,((25:Int),()))) (fun(YO:Int×Unit)=>aq (within gq.1.2.2.2.2.2.2.2.2.1 (64:Int))
 (aa (@idx Int y3.1 gq.1.2.2.2.2.2.2.2.2.1) (fun(RC:Int)=>aq (within gq.1.2.2.2.2.2.2.2.2.1 (64:Int))
 (aa (@idx Int y4.1 gq.1.2.2.2.2.2.2.2.2.1) (fun(y18:Int)=>aa (bz (gq.1.1,((2:Int),()))) (fun(VJ:Int×Unit)=>aa (bz (gq.1.1,((13:Int),()))) (fun(Ul:Int×Unit)=>aa (bz (gq.1.1,((22:Int),()))) (fun(y21:Int×Unit)=>some (Sum.inl ((aD IntKind.u32 (aD IntKind.u32 (aD IntKind.u32 (aD IntKind.u32 (aD IntKind.u32 gq.1.2.2.2.2.2.2.2.1 (dX IntKind.u32 (dX IntKind.u32 AW.1 Pq.1) YO.1)) (dX IntKind.u32 gq.1.2.2.2.2.2.2.1 (ia IntKind.u32 gq.1.2.2.2.2.1 (dX IntKind.u32 gq.1.2.2.2.2.2.1 gq.1.2.2.2.2.2.2.1)))) RC) y18) (aD IntKind.u32 (dX IntKind.u32 (dX IntKind.u32 VJ.1 Ul.1) y21.1) (zb IntKind.u32 (ia IntKind.u32 gq.1.1 gq.1.2.1) (ia IntKind.u32 gq.1.2.2.1 (zb IntKind.u32 gq.1.1 gq.1.2.1)))),(gq.1.1,(gq.1.2.1,(gq.1.2.2.1,(aD IntKind.u32 gq.1.2.2.2.1 (aD IntKind.u32 (aD IntKind.u32 (aD IntKind.u32 (aD IntKind.u32 gq.1.2.2.2.2.2.2.2.1 (dX IntKind.u32 (dX IntKind.u32 AW.1 Pq.1) YO.1)) (dX IntKind.u32 gq.1.2.2.2.2.2.2.1 (ia IntKind.u32 gq.1.2.2.2.2.1 (dX IntKind.u32 gq.1.2.2.2.2.2.1 gq.1.2.2.2.2.2.2.1)))) RC) y18),(gq.1.2.2.2.2.1,(gq.1.2.2.2.2.2.1,(gq.1.2.2.2.2.2.2.1,(aD IntKind.i64 gq.1.2.2.2.2.2.2.2.2.1 (1:Int),()))))))))),()):((yH×Unit))⊕((Nat×yH×Unit))))))))
 none))
 none))))
 (some (Sum.inr ((0:Nat),((gq.1.1,(gq.1.2.1,(gq.1.2.2.1,(gq.1.2.2.2.1,(gq.1.2.2.2.2.1,(gq.1.2.2.2.2.2.1,(gq.1.2.2.2.2.2.2.1,(gq.1.2.2.2.2.2.2.2.1,(gq.1.2.2.2.2.2.2.2.2.1,()))))))))),())):((yH×Unit))⊕((Nat×yH×Unit)))))
def fZ(gq:yH×Unit)(AW:(Int×Unit)×lD×Unit):Option (aaH⊕aaH) :=
 @cM aaH (aq (aX AW.1.1 (8:Int))
 (aa (@idx Int ([gq.1.1,gq.1.2.1,gq.1.2.2.1,gq.1.2.2.2.1,gq.1.2.2.2.2.1,gq.1.2.2.2.2.2.1,gq.1.2.2.2.2.2.2.1,gq.1.2.2.2.2.2.2.2.1]:List (Int)) AW.1.1) (fun(Pq:Int)=>aq (within AW.1.1 (8:Int))
 (aa (@idx Int AW.2.1.1.2.1 AW.1.1) (fun(YO:Int)=>aq (within AW.1.1 (8:Int))
 (aa (@idx Int AW.2.1.1.2.1 AW.1.1) (fun(RC:Int)=>aa (@idx Int AW.2.1.1.2.1 AW.1.1) (fun(y18:Int)=>aa (@idx Int AW.2.1.1.2.1 AW.1.1) (fun(VJ:Int)=>some (Sum.inl ((aD IntKind.i64 AW.1.1 (1:Int),()),(((AW.2.1.1.1,(@nq Int AW.2.1.1.2.1 AW.1.1 (aD IntKind.u32 YO Pq),AW.2.1.1.2.2)),AW.2.1.2),())):(aaH)⊕((Nat×(Int×Unit)×lD×Unit)))))))
 none))
 none))
 (some (Sum.inr ((0:Nat),((AW.1.1,()),(AW.2.1,()))):(aaH)⊕((Nat×(Int×Unit)×lD×Unit)))))
def eO(y1:(Sb×Unit)×lD×Unit):Option (((Sb×Unit)×lD×Unit)⊕((Sb×Unit)×lD×Unit)) :=
 @cM ((Sb×Unit)×lD×Unit) (aq (nt (bX y1.1.1 ([]:List (UInt8))))
 (aq (bI (64:Int) (0:Int))
 none
 (aq (inside (fR y1.2.1.2.2.1 (64:Int)) (64:Int) (64:Int))
 (aq (inside (@len Int (@iB Int (az y1.1.1) (minus (64:Int) (fR y1.2.1.2.2.1 (64:Int))))) (@len UInt8 y1.1.1) (@len UInt8 y1.1.1))
 (aa (aq (bI (aD IntKind.i64 (fR y1.2.1.2.2.1 (64:Int)) (@len Int (@iB Int (az y1.1.1) (minus (64:Int) (fR y1.2.1.2.2.1 (64:Int)))))) (64:Int))
 (aa (aq (nt y1.2.1.1.1)
 (aa (oN ()) (fun(y2:(List (Int))×Unit)=>some ((),(((true,(y2.1,y1.2.1.1.2.2)),(@over Int y1.2.1.2.1 (fR y1.2.1.2.2.1 (64:Int)) (@iB Int (az y1.1.1) (minus (64:Int) (fR y1.2.1.2.2.1 (64:Int)))),(aD IntKind.i64 y1.2.1.2.2.1 (@len Int (@iB Int (az y1.1.1) (minus (64:Int) (fR y1.2.1.2.2.1 (64:Int))))),y1.2.1.2.2.2))),()))))
 (some ((),((y1.2.1.1,(@over Int y1.2.1.2.1 (fR y1.2.1.2.2.1 (64:Int)) (@iB Int (az y1.1.1) (minus (64:Int) (fR y1.2.1.2.2.1 (64:Int)))),(aD IntKind.i64 y1.2.1.2.2.1 (@len Int (@iB Int (az y1.1.1) (minus (64:Int) (fR y1.2.1.2.2.1 (64:Int))))),y1.2.1.2.2.2))),())))) (fun(y2:Unit×lD×Unit)=>aa (wz ()) (fun(y3:(List (Int))×Unit)=>aa (lS (@over Int y1.2.1.2.1 (fR y1.2.1.2.2.1 (64:Int)) (@iB Int (az y1.1.1) (minus (64:Int) (fR y1.2.1.2.2.1 (64:Int)))),())) (fun(y4:(List (Int))×Unit)=>aq (within (0:Int) (8:Int))
 (aa (@idx Int y2.2.1.1.2.1 (0:Int)) (fun(y5:Int)=>aq (within (1:Int) (8:Int))
 (aa (@idx Int y2.2.1.1.2.1 (1:Int)) (fun(y6:Int)=>aq (within (2:Int) (8:Int))
 (aa (@idx Int y2.2.1.1.2.1 (2:Int)) (fun(y7:Int)=>aq (within (3:Int) (8:Int))
 (aa (@idx Int y2.2.1.1.2.1 (3:Int)) (fun(y8:Int)=>aq (within (4:Int) (8:Int))
 (aa (@idx Int y2.2.1.1.2.1 (4:Int)) (fun(y9:Int)=>aq (within (5:Int) (8:Int))
 (aa (@idx Int y2.2.1.1.2.1 (5:Int)) (fun(qv:Int)=>aq (within (6:Int) (8:Int))
 (aa (@idx Int y2.2.1.1.2.1 (6:Int)) (fun(nR:Int)=>aq (within (7:Int) (8:Int))
 (aa (@idx Int y2.2.1.1.2.1 (7:Int)) (fun(jq:Int)=>aa (Loop (eN y3 y4) ((y5,(y6,(y7,(y8,(y9,(qv,(nR,(jq,((0:Int),()))))))))),())) (fun(gq:yH×Unit)=>aa (Loop (fZ gq) (((0:Int),()),(y2.2.1,()))) (fun(AW:(Int×Unit)×lD×Unit)=>some ((),(AW.2.1,()))))))
 none))
 none))
 none))
 none))
 none))
 none))
 none))
 none))))
 (some ((),((y1.2.1.1,(@over Int y1.2.1.2.1 (fR y1.2.1.2.2.1 (64:Int)) (@iB Int (az y1.1.1) (minus (64:Int) (fR y1.2.1.2.2.1 (64:Int)))),(aD IntKind.i64 y1.2.1.2.2.1 (@len Int (@iB Int (az y1.1.1) (minus (64:Int) (fR y1.2.1.2.2.1 (64:Int))))),y1.2.1.2.2.2))),())))) (fun(y2:Unit×lD×Unit)=>some (Sum.inl ((@sub UInt8 y1.1.1 (@len Int (@iB Int (az y1.1.1) (minus (64:Int) (fR y1.2.1.2.2.1 (64:Int))))) (minus (@len UInt8 y1.1.1) (@len Int (@iB Int (az y1.1.1) (minus (64:Int) (fR y1.2.1.2.2.1 (64:Int)))))),()),(y2.2.1,())):(((Sb×Unit)×lD×Unit))⊕((Nat×(Sb×Unit)×lD×Unit)))))
 none)
 none))
 (some (Sum.inr ((0:Nat),((y1.1.1,()),(y1.2.1,()))):(((Sb×Unit)×lD×Unit))⊕((Nat×(Sb×Unit)×lD×Unit)))))
def fe(x:(Sb×Unit)×lD×Unit):Option (Unit×lD×Unit) :=
 aa (Loop (eO) ((x.1.1,()),(x.2.1,()))) (fun(y1:(Sb×Unit)×lD×Unit)=>some ((),(y1.2.1,())))
def dJ(y2:Unit×lD×Unit):Option ((Unit×lD×Unit)⊕(Unit×lD×Unit)) :=
 @cM (Unit×lD×Unit) (aq (bI (64:Int) (0:Int))
 none
 (aq (nt (bI (fR y2.2.1.2.2.1 (64:Int)) (56:Int)))
 (aa (fe ((([(0:UInt8)]:List (UInt8)),()),(y2.2.1,()))) (fun(y3:Unit×lD×Unit)=>some (Sum.inl ((),(y3.2.1,())):((Unit×lD×Unit))⊕((Nat×Unit×lD×Unit)))))
 (some (Sum.inr ((0:Nat),((),(y2.2.1,()))):((Unit×lD×Unit))⊕((Nat×Unit×lD×Unit))))))
def eP(x:Unit×lD×Unit)(y3:(Int×Unit)×(List (Int))×Unit):Option (fc⊕fc) :=
 @cM fc (aq (aX y3.1.1 (8:Int))
 (aq (aX (iZ IntKind.i64 (8:Int) y3.1.1) (0:Int))
 none
 (aq (within (cL IntKind.i64 (7:Int) y3.1.1) (8:Int))
 (aa (@idx Int y3.2.1 (cL IntKind.i64 (7:Int) y3.1.1)) (fun(y4:Int)=>aa (@idx Int y3.2.1 (cL IntKind.i64 (7:Int) y3.1.1)) (fun(y5:Int)=>aa (@idx Int y3.2.1 (cL IntKind.i64 (7:Int) y3.1.1)) (fun(y6:Int)=>some (Sum.inl ((aD IntKind.i64 y3.1.1 (1:Int),()),(@nq Int y3.2.1 (cL IntKind.i64 (7:Int) y3.1.1) (kT IntKind.u8 (jS IntKind.u64 (iZ IntKind.u64 (kT IntKind.u64 (((((((),(x.2.1,())).2).1).2).2).1)) (8:Int)) (iZ IntKind.i64 (8:Int) y3.1.1))),())):(fc)⊕vU)))))
 none))
 (some (Sum.inr ((0:Nat),((y3.1.1,()),(y3.2.1,()))):(fc)⊕vU)))
def ga(y4:Unit×lD×Unit)(y5:(Int×Unit)×(List (Int))×Unit):Option (fc⊕fc) :=
 @cM fc (aq (aX y5.1.1 (32:Int))
 (aq (bI (4:Int) (0:Int))
 none
 (aq (within (DZ IntKind.i64 y5.1.1 (4:Int)) (8:Int))
 (aa (@idx Int y4.2.1.1.2.1 (DZ IntKind.i64 y5.1.1 (4:Int))) (fun(y6:Int)=>aq (bI (4:Int) (0:Int))
 none
 (aq (aX (cL IntKind.i64 (24:Int) (iZ IntKind.i64 (8:Int) (fR y5.1.1 (4:Int)))) (0:Int))
 none
 (aq (within y5.1.1 (32:Int))
 (aa (@idx Int y5.2.1 y5.1.1) (fun(y7:Int)=>aa (@idx Int y5.2.1 y5.1.1) (fun(y8:Int)=>aa (@idx Int y5.2.1 y5.1.1) (fun(y9:Int)=>some (Sum.inl ((aD IntKind.i64 y5.1.1 (1:Int),()),(@nq Int y5.2.1 y5.1.1 (kT IntKind.u8 (jS IntKind.u32 y6 (cL IntKind.i64 (24:Int) (iZ IntKind.i64 (8:Int) (fR y5.1.1 (4:Int)))))),())):(fc)⊕vU)))))
 none))))
 none))
 (some (Sum.inr ((0:Nat),((y5.1.1,()),(y5.2.1,()))):(fc)⊕vU)))
def mF(x:Unit×lD×Unit):Option (Mw×lD×Unit) :=
 aa (fe ((aT ([(128:Int)]:List (Int)),()),((((),(x.2.1,())).2).1,()))) (fun(y1:Unit×lD×Unit)=>aa (Loop (dJ) ((),(y1.2.1,()))) (fun(y2:Unit×lD×Unit)=>aa (Loop (eP x) (((0:Int),()),(([(0:Int),(0:Int),(0:Int),(0:Int),(0:Int),(0:Int),(0:Int),(0:Int)]:List (Int)),()))) (fun(y3:(Int×Unit)×(List (Int))×Unit)=>aq (inside (0:Int) (8:Int) (8:Int))
 (aa (fe ((aT (@sub Int y3.2.1 (0:Int) (minus (8:Int) (0:Int))),()),(y2.2.1,()))) (fun(y4:Unit×lD×Unit)=>aa (Loop (ga y4) (((0:Int),()),(([(0:Int),(0:Int),(0:Int),(0:Int),(0:Int),(0:Int),(0:Int),(0:Int),(0:Int),(0:Int),(0:Int),(0:Int),(0:Int),(0:Int),(0:Int),(0:Int),(0:Int),(0:Int),(0:Int),(0:Int),(0:Int),(0:Int),(0:Int),(0:Int),(0:Int),(0:Int),(0:Int),(0:Int),(0:Int),(0:Int),(0:Int),(0:Int)]:List (Int)),()))) (fun(y5:(Int×Unit)×(List (Int))×Unit)=>some ((y5.2.1,()),(x.2.1,())))))
 none)))
def CB(x:Sb×Unit):Option Mw :=
 aa (fe ((x.1,()),(((false,(([(0:Int),(0:Int),(0:Int),(0:Int),(0:Int),(0:Int),(0:Int),(0:Int)]:List (Int)),())),(([(0:Int),(0:Int),(0:Int),(0:Int),(0:Int),(0:Int),(0:Int),(0:Int),(0:Int),(0:Int),(0:Int),(0:Int),(0:Int),(0:Int),(0:Int),(0:Int),(0:Int),(0:Int),(0:Int),(0:Int),(0:Int),(0:Int),(0:Int),(0:Int),(0:Int),(0:Int),(0:Int),(0:Int),(0:Int),(0:Int),(0:Int),(0:Int),(0:Int),(0:Int),(0:Int),(0:Int),(0:Int),(0:Int),(0:Int),(0:Int),(0:Int),(0:Int),(0:Int),(0:Int),(0:Int),(0:Int),(0:Int),(0:Int),(0:Int),(0:Int),(0:Int),(0:Int),(0:Int),(0:Int),(0:Int),(0:Int),(0:Int),(0:Int),(0:Int),(0:Int),(0:Int),(0:Int),(0:Int),(0:Int)]:List (Int)),((0:Int),()))),()))) (fun(y1:Unit×lD×Unit)=>aa (mF ((),(y1.2.1,()))) (fun(y2:Mw×lD×Unit)=>some (y2.1.1,())))
def xB(x:Unit):Option Mw :=
 some (([(1779033703:Int),(3144134277:Int),(1013904242:Int),(2773480762:Int),(1359893119:Int),(2600822924:Int),(528734635:Int),(1541459225:Int)]:List (Int)),())
def jF(y1:(Unit×Unit)×(List (Int))×Unit):Option (aaF⊕aaF) :=
 @cM aaF (aq (bI (64:Int) (0:Int))
 none
 (aq (nt (bI (fR (@len Int y1.2.1) (64:Int)) (56:Int)))
 (aq (fits (plus (@len Int y1.2.1) (@len Int ([(0:Int)]:List (Int)))))
 (some (Sum.inl (((),()),(@app Int y1.2.1 ([(0:Int)]:List (Int)),())):(aaF)⊕((Nat×(Unit×Unit)×(List (Int))×Unit))))
 none)
 (some (Sum.inr ((0:Nat),(((),()),(y1.2.1,()))):(aaF)⊕((Nat×(Unit×Unit)×(List (Int))×Unit))))))
def dD(x:Sb×Unit)(y2:(Unit×Int×Unit)×(List (Int))×Unit):Option (aaE⊕aaE) :=
 @cM aaE (aq (cK (0:Int) y2.1.2.1)
 (aq (aX (iZ IntKind.i64 (8:Int) y2.1.2.1) (0:Int))
 none
 (aq (fits (plus (@len Int y2.2.1) (@len Int ([kT IntKind.u8 (jS IntKind.u64 (iZ IntKind.u64 (kT IntKind.u64 (@len UInt8 x.1)) (8:Int)) (iZ IntKind.i64 (8:Int) y2.1.2.1))]:List (Int)))))
 (some (Sum.inl (((),(cL IntKind.i64 y2.1.2.1 (1:Int),())),(@app Int y2.2.1 ([kT IntKind.u8 (jS IntKind.u64 (iZ IntKind.u64 (kT IntKind.u64 (@len UInt8 x.1)) (8:Int)) (iZ IntKind.i64 (8:Int) y2.1.2.1))]:List (Int)),())):(aaE)⊕((Nat×(Unit×Int×Unit)×(List (Int))×Unit))))
 none))
 (some (Sum.inr ((0:Nat),(((),(y2.1.2.1,())),(y2.2.1,()))):(aaE)⊕((Nat×(Unit×Int×Unit)×(List (Int))×Unit)))))
def rG(x:Sb×Unit):Option (Sb×Unit) :=
 aq (fits (@len UInt8 x.1))
 (aq (fits (plus (@len Int (az x.1)) (@len Int ([(128:Int)]:List (Int)))))
 (aa (Loop (jF) (((),()),(@app Int (az x.1) ([(128:Int)]:List (Int)),()))) (fun(y1:(Unit×Unit)×(List (Int))×Unit)=>aa (Loop (dD x) (((),((7:Int),())),(y1.2.1,()))) (fun(y2:(Unit×Int×Unit)×(List (Int))×Unit)=>some (aT y2.2.1,()))))
 none)
 none
def bL(x:Int×Int×Unit):Option (Int×Unit) :=
 aq (aX x.2.1 (0:Int))
 none
 (aq (aX (cL IntKind.i64 (32:Int) x.2.1) (0:Int))
 none
 (some (zb IntKind.u32 (jS IntKind.u32 x.1 x.2.1) (mU IntKind.u32 x.1 (cL IntKind.i64 (32:Int) x.2.1)),())))
def vr(x:Unit):Option Mw :=
 some (([(1116352408:Int),(1899447441:Int),(3049323471:Int),(3921009573:Int),(961987163:Int),(1508970993:Int),(2453635748:Int),(2870763221:Int),(3624381080:Int),(310598401:Int),(607225278:Int),(1426881987:Int),(1925078388:Int),(2162078206:Int),(2614888103:Int),(3248222580:Int),(3835390401:Int),(4022224774:Int),(264347078:Int),(604807628:Int),(770255983:Int),(1249150122:Int),(1555081692:Int),(1996064986:Int),(2554220882:Int),(2821834349:Int),(2952996808:Int),(3210313671:Int),(3336571891:Int),(3584528711:Int),(113926993:Int),(338241895:Int),(666307205:Int),(773529912:Int),(1294757372:Int),(1396182291:Int),(1695183700:Int),(1986661051:Int),(2177026350:Int),(2456956037:Int),(2730485921:Int),(2820302411:Int),(3259730800:Int),(3345764771:Int),(3516065817:Int),(3600352804:Int),(4094571909:Int),(275423344:Int),(430227734:Int),(506948616:Int),(659060556:Int),(883997877:Int),(958139571:Int),(1322822218:Int),(1537002063:Int),(1747873779:Int),(1955562222:Int),(2024104815:Int),(2227730452:Int),(2361852424:Int),(2428436474:Int),(2756734187:Int),(3204031479:Int),(3329325298:Int)]:List (Int)),())
def gE(x:(List (Int))×Sb×Unit)(y1:(Int×Unit)×(List (Int))×Unit):Option (fc⊕fc) :=
 @cM fc (aq (aX y1.1.1 (16:Int))
 (aa (@idx UInt8 x.2.1 (iZ IntKind.i64 (4:Int) y1.1.1)) (fun(y2:UInt8)=>aq (aX (24:Int) (0:Int))
 none
 (aa (@idx UInt8 x.2.1 (aD IntKind.i64 (iZ IntKind.i64 (4:Int) y1.1.1) (1:Int))) (fun(y3:UInt8)=>aq (aX (16:Int) (0:Int))
 none
 (aa (@idx UInt8 x.2.1 (aD IntKind.i64 (iZ IntKind.i64 (4:Int) y1.1.1) (2:Int))) (fun(y4:UInt8)=>aq (aX (8:Int) (0:Int))
 none
 (aa (@idx UInt8 x.2.1 (aD IntKind.i64 (iZ IntKind.i64 (4:Int) y1.1.1) (3:Int))) (fun(y5:UInt8)=>aq (within y1.1.1 (64:Int))
 (aa (@idx Int y1.2.1 y1.1.1) (fun(y6:Int)=>aa (@idx Int y1.2.1 y1.1.1) (fun(y7:Int)=>aa (@idx Int y1.2.1 y1.1.1) (fun(y8:Int)=>some (Sum.inl ((aD IntKind.i64 y1.1.1 (1:Int),()),(@nq Int y1.2.1 y1.1.1 (zb IntKind.u32 (zb IntKind.u32 (zb IntKind.u32 (mU IntKind.u32 (kT IntKind.u32 (u8 y2)) (24:Int)) (mU IntKind.u32 (kT IntKind.u32 (u8 y3)) (16:Int))) (mU IntKind.u32 (kT IntKind.u32 (u8 y4)) (8:Int))) (kT IntKind.u32 (u8 y5))),())):(fc)⊕vU)))))
 none))))))))
 (some (Sum.inr ((0:Nat),((y1.1.1,()),(y1.2.1,()))):(fc)⊕vU)))
def jG(y2:(Int×Unit)×(List (Int))×Unit):Option (fc⊕fc) :=
 @cM fc (aq (aX y2.1.1 (64:Int))
 (aq (within (cL IntKind.i64 y2.1.1 (2:Int)) (64:Int))
 (aa (@idx Int y2.2.1 (cL IntKind.i64 y2.1.1 (2:Int))) (fun(y3:Int)=>aq (within (cL IntKind.i64 y2.1.1 (15:Int)) (64:Int))
 (aa (@idx Int y2.2.1 (cL IntKind.i64 y2.1.1 (15:Int))) (fun(y4:Int)=>aa (bL (y3,((17:Int),()))) (fun(y5:Int×Unit)=>aa (bL (y3,((19:Int),()))) (fun(y6:Int×Unit)=>aq (aX (10:Int) (0:Int))
 none
 (aq (within (cL IntKind.i64 y2.1.1 (7:Int)) (64:Int))
 (aa (@idx Int y2.2.1 (cL IntKind.i64 y2.1.1 (7:Int))) (fun(y7:Int)=>aa (bL (y4,((7:Int),()))) (fun(y8:Int×Unit)=>aa (bL (y4,((18:Int),()))) (fun(y9:Int×Unit)=>aq (aX (3:Int) (0:Int))
 none
 (aq (within (cL IntKind.i64 y2.1.1 (16:Int)) (64:Int))
 (aa (@idx Int y2.2.1 (cL IntKind.i64 y2.1.1 (16:Int))) (fun(qv:Int)=>aq (within y2.1.1 (64:Int))
 (aa (@idx Int y2.2.1 y2.1.1) (fun(nR:Int)=>aa (@idx Int y2.2.1 y2.1.1) (fun(jq:Int)=>aa (@idx Int y2.2.1 y2.1.1) (fun(gq:Int)=>some (Sum.inl ((aD IntKind.i64 y2.1.1 (1:Int),()),(@nq Int y2.2.1 y2.1.1 (aD IntKind.u32 (aD IntKind.u32 (aD IntKind.u32 (dX IntKind.u32 (dX IntKind.u32 y5.1 y6.1) (jS IntKind.u32 y3 (10:Int))) y7) (dX IntKind.u32 (dX IntKind.u32 y8.1 y9.1) (jS IntKind.u32 y4 (3:Int)))) qv),())):(fc)⊕vU)))))
 none))
 none)))))
 none)))))
 none))
 none)
 (some (Sum.inr ((0:Nat),((y2.1.1,()),(y2.2.1,()))):(fc)⊕vU)))
def gG(y2:(Int×Unit)×(List (Int))×Unit)(y3:(List (Int))×Unit)(y4:(Int×Unit)×(List (Int))×Unit):Option (fc⊕fc) :=
 @cM fc (aq (aX y4.1.1 (64:Int))
 (aq (within (4:Int) (8:Int))
 (aa (@idx Int y4.2.1 (4:Int)) (fun(y5:Int)=>aq (within (0:Int) (8:Int))
 (aa (@idx Int y4.2.1 (0:Int)) (fun(y6:Int)=>aq (within (7:Int) (8:Int))
 (aa (@idx Int y4.2.1 (7:Int)) (fun(y7:Int)=>aa (bL (y5,((6:Int),()))) (fun(y8:Int×Unit)=>aa (bL (y5,((11:Int),()))) (fun(y9:Int×Unit)=>aa (bL (y5,((25:Int),()))) (fun(qv:Int×Unit)=>aq (within (5:Int) (8:Int))
 (aa (@idx Int y4.2.1 (5:Int)) (fun(nR:Int)=>aq (within (6:Int) (8:Int))
 (aa (@idx Int y4.2.1 (6:Int)) (fun(jq:Int)=>aq (within y4.1.1 (64:Int))
 (aa (@idx Int y3.1 y4.1.1) (fun(gq:Int)=>aq (within y4.1.1 (64:Int))
 (aa (@idx Int y2.2.1 y4.1.1) (fun(AW:Int)=>aa (bL (y6,((2:Int),()))) (fun(Pq:Int×Unit)=>aa (bL (y6,((13:Int),()))) (fun(YO:Int×Unit)=>aa (bL (y6,((22:Int),()))) (fun(RC:Int×Unit)=>aq (within (1:Int) (8:Int))
 (aa (@idx Int y4.2.1 (1:Int)) (fun(y18:Int)=>aq (within (2:Int) (8:Int))
 (aa (@idx Int y4.2.1 (2:Int)) (fun(VJ:Int)=>aq (within (1:Int) (8:Int))
 (aa (@idx Int y4.2.1 (1:Int)) (fun(Ul:Int)=>aq (within (2:Int) (8:Int))
 (aa (@idx Int y4.2.1 (2:Int)) (fun(y21:Int)=>aq (within (0:Int) (8:Int))
 (aa (@idx Int y4.2.1 (0:Int)) (fun(y22:Int)=>aq (within (1:Int) (8:Int))
 (aa (@idx Int y4.2.1 (1:Int)) (fun(y23:Int)=>aq (within (2:Int) (8:Int))
 (aa (@idx Int y4.2.1 (2:Int)) (fun(y24:Int)=>aq (within (3:Int) (8:Int))
 (aa (@idx Int y4.2.1 (3:Int)) (fun(y25:Int)=>aq (within (4:Int) (8:Int))
 (aa (@idx Int y4.2.1 (4:Int)) (fun(y26:Int)=>aq (within (5:Int) (8:Int))
 (aa (@idx Int y4.2.1 (5:Int)) (fun(y27:Int)=>aq (within (6:Int) (8:Int))
 (aa (@idx Int y4.2.1 (6:Int)) (fun(y28:Int)=>some (Sum.inl ((aD IntKind.i64 y4.1.1 (1:Int),()),(([aD IntKind.u32 (aD IntKind.u32 (aD IntKind.u32 (aD IntKind.u32 (aD IntKind.u32 y7 (dX IntKind.u32 (dX IntKind.u32 y8.1 y9.1) qv.1)) (dX IntKind.u32 (ia IntKind.u32 y5 nR) (ia IntKind.u32 (dX IntKind.u32 (4294967295:Int) y5) jq))) gq) AW) (aD IntKind.u32 (dX IntKind.u32 (dX IntKind.u32 Pq.1 YO.1) RC.1) (dX IntKind.u32 (dX IntKind.u32 (ia IntKind.u32 y6 y18) (ia IntKind.u32 y6 VJ)) (ia IntKind.u32 Ul y21))),y22,y23,y24,aD IntKind.u32 y25 (aD IntKind.u32 (aD IntKind.u32 (aD IntKind.u32 (aD IntKind.u32 y7 (dX IntKind.u32 (dX IntKind.u32 y8.1 y9.1) qv.1)) (dX IntKind.u32 (ia IntKind.u32 y5 nR) (ia IntKind.u32 (dX IntKind.u32 (4294967295:Int) y5) jq))) gq) AW),y26,y27,y28]:List (Int)),())):(fc)⊕vU)))
 none))
 none))
 none))
 none))
 none))
 none))
 none))
 none))
 none))
 none))
 none)))))
 none))
 none))
 none))
 none)))))
 none))
 none))
 none)
 (some (Sum.inr ((0:Nat),((y4.1.1,()),(y4.2.1,()))):(fc)⊕vU)))
def jH(x:(List (Int))×Sb×Unit)(y5:(Int×Unit)×(List (Int))×Unit):Option (fc⊕fc) :=
 @cM fc (aq (aX y5.1.1 (8:Int))
 (aq (within y5.1.1 (8:Int))
 (aa (@idx Int y5.2.1 y5.1.1) (fun(y6:Int)=>aq (within y5.1.1 (8:Int))
 (aa (@idx Int x.1 y5.1.1) (fun(y7:Int)=>aq (within y5.1.1 (8:Int))
 (aa (@idx Int y5.2.1 y5.1.1) (fun(y8:Int)=>aa (@idx Int y5.2.1 y5.1.1) (fun(y9:Int)=>aa (@idx Int y5.2.1 y5.1.1) (fun(qv:Int)=>some (Sum.inl ((aD IntKind.i64 y5.1.1 (1:Int),()),(@nq Int y5.2.1 y5.1.1 (aD IntKind.u32 y6 y7),())):(fc)⊕vU)))))
 none))
 none))
 none)
 (some (Sum.inr ((0:Nat),((y5.1.1,()),(y5.2.1,()))):(fc)⊕vU)))
def rH(x:(List (Int))×Sb×Unit):Option Mw :=
 aa (Loop (gE x) (((0:Int),()),(([(0:Int),(0:Int),(0:Int),(0:Int),(0:Int),(0:Int),(0:Int),(0:Int),(0:Int),(0:Int),(0:Int),(0:Int),(0:Int),(0:Int),(0:Int),(0:Int),(0:Int),(0:Int),(0:Int),(0:Int),(0:Int),(0:Int),(0:Int),(0:Int),(0:Int),(0:Int),(0:Int),(0:Int),(0:Int),(0:Int),(0:Int),(0:Int),(0:Int),(0:Int),(0:Int),(0:Int),(0:Int),(0:Int),(0:Int),(0:Int),(0:Int),(0:Int),(0:Int),(0:Int),(0:Int),(0:Int),(0:Int),(0:Int),(0:Int),(0:Int),(0:Int),(0:Int),(0:Int),(0:Int),(0:Int),(0:Int),(0:Int),(0:Int),(0:Int),(0:Int),(0:Int),(0:Int),(0:Int),(0:Int)]:List (Int)),()))) (fun(y1:(Int×Unit)×(List (Int))×Unit)=>aa (Loop (jG) (((16:Int),()),(y1.2.1,()))) (fun(y2:(Int×Unit)×(List (Int))×Unit)=>aa (vr ()) (fun(y3:(List (Int))×Unit)=>aa (Loop (gG y2 y3) (((0:Int),()),(x.1,()))) (fun(y4:(Int×Unit)×(List (Int))×Unit)=>aa (Loop (jH x) (((0:Int),()),(y4.2.1,()))) (fun(y5:(Int×Unit)×(List (Int))×Unit)=>some (y5.2.1,()))))))
def lT(y2:Sb×Unit)(y3:(Int×Unit)×(List (Int))×Unit):Option (fc⊕fc) :=
 @cM fc (aq (cK (aD IntKind.i64 y3.1.1 (64:Int)) (@len UInt8 y2.1))
 (aq (inside y3.1.1 (aD IntKind.i64 y3.1.1 (64:Int)) (@len UInt8 y2.1))
 (aa (rH (y3.2.1,(@sub UInt8 y2.1 y3.1.1 (minus (aD IntKind.i64 y3.1.1 (64:Int)) y3.1.1),()))) (fun(y4:(List (Int))×Unit)=>some (Sum.inl ((aD IntKind.i64 y3.1.1 (64:Int),()),(y4.1,())):(fc)⊕vU)))
 none)
 (some (Sum.inr ((0:Nat),((y3.1.1,()),(y3.2.1,()))):(fc)⊕vU)))
def lU(y3:(Int×Unit)×(List (Int))×Unit)(y4:(Int×Unit)×(List (Int))×Unit):Option (fc⊕fc) :=
 @cM fc (aq (aX y4.1.1 (32:Int))
 (aq (bI (4:Int) (0:Int))
 none
 (aq (within (DZ IntKind.i64 y4.1.1 (4:Int)) (8:Int))
 (aa (@idx Int y3.2.1 (DZ IntKind.i64 y4.1.1 (4:Int))) (fun(y5:Int)=>aq (bI (4:Int) (0:Int))
 none
 (aq (aX (cL IntKind.i64 (24:Int) (iZ IntKind.i64 (8:Int) (fR y4.1.1 (4:Int)))) (0:Int))
 none
 (aq (within y4.1.1 (32:Int))
 (aa (@idx Int y4.2.1 y4.1.1) (fun(y6:Int)=>aa (@idx Int y4.2.1 y4.1.1) (fun(y7:Int)=>aa (@idx Int y4.2.1 y4.1.1) (fun(y8:Int)=>some (Sum.inl ((aD IntKind.i64 y4.1.1 (1:Int),()),(@nq Int y4.2.1 y4.1.1 (kT IntKind.u8 (jS IntKind.u32 y5 (cL IntKind.i64 (24:Int) (iZ IntKind.i64 (8:Int) (fR y4.1.1 (4:Int)))))),())):(fc)⊕vU)))))
 none))))
 none))
 (some (Sum.inr ((0:Nat),((y4.1.1,()),(y4.2.1,()))):(fc)⊕vU)))
def wA(x:Sb×Unit):Option Mw :=
 aa (xB ()) (fun(y1:(List (Int))×Unit)=>aa (rG (x.1,())) (fun(y2:Sb×Unit)=>aa (Loop (lT y2) (((0:Int),()),(y1.1,()))) (fun(y3:(Int×Unit)×(List (Int))×Unit)=>aa (Loop (lU y3) (((0:Int),()),(([(0:Int),(0:Int),(0:Int),(0:Int),(0:Int),(0:Int),(0:Int),(0:Int),(0:Int),(0:Int),(0:Int),(0:Int),(0:Int),(0:Int),(0:Int),(0:Int),(0:Int),(0:Int),(0:Int),(0:Int),(0:Int),(0:Int),(0:Int),(0:Int),(0:Int),(0:Int),(0:Int),(0:Int),(0:Int),(0:Int),(0:Int),(0:Int)]:List (Int)),()))) (fun(y4:(Int×Unit)×(List (Int))×Unit)=>some (y4.2.1,())))))
end Go.Ge
namespace Go.Ge
variable [Lp]
set_option maxRecDepth 100000
abbrev aaI:=((Int×Unit)×(Unit×Unit×Unit)×(List (Int))×Unit)
abbrev aaJ:=((Unit×Int×Unit)×(List (Int))×Unit)
def kC(x:Sb×Unit)(y1:(Int×Unit)×(Unit×Unit×Unit)×(List (Int))×Unit):Option (aaI⊕aaI) :=
 @cM aaI (aq (aX y1.1.1 (@len Int (az x.1)))
 (aq (within y1.1.1 (@len Int (az x.1)))
 (aa (@idx Int (az x.1) y1.1.1) (fun(y2:Int)=>aq (aX (4:Int) (0:Int))
 none
 (aa (@idx UInt8 ([(48:UInt8),(49:UInt8),(50:UInt8),(51:UInt8),(52:UInt8),(53:UInt8),(54:UInt8),(55:UInt8),(56:UInt8),(57:UInt8),(97:UInt8),(98:UInt8),(99:UInt8),(100:UInt8),(101:UInt8),(102:UInt8)]:List (UInt8)) (jS IntKind.u8 y2 (4:Int))) (fun(y3:UInt8)=>aq (fits (plus (@len Int y1.2.2.1) (@len Int ([u8 y3]:List (Int)))))
 (aa (@idx UInt8 ([(48:UInt8),(49:UInt8),(50:UInt8),(51:UInt8),(52:UInt8),(53:UInt8),(54:UInt8),(55:UInt8),(56:UInt8),(57:UInt8),(97:UInt8),(98:UInt8),(99:UInt8),(100:UInt8),(101:UInt8),(102:UInt8)]:List (UInt8)) (ia IntKind.u8 y2 (15:Int))) (fun(y4:UInt8)=>aq (fits (plus (@len Int (@app Int y1.2.2.1 ([u8 y3]:List (Int)))) (@len Int ([u8 y4]:List (Int)))))
 (some (Sum.inl ((aD IntKind.i64 y1.1.1 (1:Int),()),(((),((),y1.2.1.2.2)),(@app Int (@app Int y1.2.2.1 ([u8 y3]:List (Int))) ([u8 y4]:List (Int)),()))):(aaI)⊕((Nat×(Int×Unit)×(Unit×Unit×Unit)×(List (Int))×Unit))))
 none))
 none))))
 none)
 (some (Sum.inr ((0:Nat),((y1.1.1,()),(((),((),y1.2.1.2.2)),(y1.2.2.1,())))):(aaI)⊕((Nat×(Int×Unit)×(Unit×Unit×Unit)×(List (Int))×Unit)))))
def pL(x:Sb×Unit):Option (Sb×Unit) :=
 aq (fits (@len UInt8 x.1))
 (aa (Loop (kC x) (((0:Int),()),(((),((),())),(([]:List (Int)),())))) (fun(y1:(Int×Unit)×(Unit×Unit×Unit)×(List (Int))×Unit)=>some (aT y1.2.2.1,())))
 none
def wB(x:Sb×Unit):Option (Sb×Unit) :=
 aa (CB (x.1,())) (fun(y1:(List (Int))×Unit)=>aq (inside (0:Int) (32:Int) (32:Int))
 (aa (pL (aT (@sub Int y1.1 (0:Int) (minus (32:Int) (0:Int))),())) (fun(y2:Sb×Unit)=>aq (fits (plus (@len UInt8 ([(115:UInt8),(104:UInt8),(97:UInt8),(50:UInt8),(53:UInt8),(54:UInt8),(58:UInt8)]:List (UInt8))) (@len UInt8 y2.1)))
 (some (@app UInt8 ([(115:UInt8),(104:UInt8),(97:UInt8),(50:UInt8),(53:UInt8),(54:UInt8),(58:UInt8)]:List (UInt8)) y2.1,()))
 none))
 none)
def cq(x:Sb×Sb×Unit):Option (Bool×Unit) :=
 aa (aq (cK (@len UInt8 x.2.1) (@len UInt8 x.1))
 (aq (inside (0:Int) (@len UInt8 x.2.1) (@len UInt8 x.1))
 (some (bX (@sub UInt8 x.1 (0:Int) (minus (@len UInt8 x.2.1) (0:Int))) x.2.1))
 none)
 (some false)) (fun(y1:Bool)=>some (y1,()))
def iK(x:Sb×Sb×Unit):Option (Sb×Bool×Unit) :=
 aa (cq (x.1,(x.2.1,()))) (fun(y1:Bool×Unit)=>aq (nt y1.1)
 (some (x.1,(false,())))
 (aq (inside (@len UInt8 x.2.1) (@len UInt8 x.1) (@len UInt8 x.1))
 (some (@sub UInt8 x.1 (@len UInt8 x.2.1) (minus (@len UInt8 x.1) (@len UInt8 x.2.1)),(true,())))
 none))
def tP(x:Sb×Sb×Unit):Option (Sb×Bool×Unit) :=
 aa (iK (x.1,(x.2.1,()))) (fun(y1:Sb×Bool×Unit)=>some (y1.1,(y1.2.1,())))
def gb(x:Sb×Int×Unit):Option (Int×Unit) :=
 aa (iG (x.1,(x.2.1,()))) (fun(y1:Int×Unit)=>some (y1.1,()))
def nA(x:Int×Unit):Option (Int×Unit) :=
 aq (aX x.1 (10:Int))
 (some (kT IntKind.u8 (aD IntKind.i64 (48:Int) x.1),()))
 (some (kT IntKind.u8 (cL IntKind.i64 (aD IntKind.i64 (97:Int) x.1) (10:Int)),()))
def lV(x:Sb×Unit)(y1:(Unit×Int×Unit)×(List (Int))×Unit):Option (aaJ⊕aaJ) :=
 @cM aaJ (aq (aX y1.1.2.1 (@len UInt8 x.1))
 (aa (@idx UInt8 x.1 y1.1.2.1) (fun(y2:UInt8)=>aq (bI (16:Int) (0:Int))
 none
 (aa (nA (DZ IntKind.i64 (kT IntKind.i64 (u8 y2)) (16:Int),())) (fun(y3:Int×Unit)=>aq (fits (plus (@len Int y1.2.1) (@len Int ([y3.1]:List (Int)))))
 (aa (@idx UInt8 x.1 y1.1.2.1) (fun(y4:UInt8)=>aq (bI (16:Int) (0:Int))
 none
 (aa (nA (fR (kT IntKind.i64 (u8 y4)) (16:Int),())) (fun(y5:Int×Unit)=>aq (fits (plus (@len Int (@app Int y1.2.1 ([y3.1]:List (Int)))) (@len Int ([y5.1]:List (Int)))))
 (some (Sum.inl (((),(aD IntKind.i64 y1.1.2.1 (1:Int),())),(@app Int (@app Int y1.2.1 ([y3.1]:List (Int))) ([y5.1]:List (Int)),())):(aaJ)⊕((Nat×(Unit×Int×Unit)×(List (Int))×Unit))))
 none))))
 none))))
 (some (Sum.inr ((0:Nat),(((),(y1.1.2.1,())),(y1.2.1,()))):(aaJ)⊕((Nat×(Unit×Int×Unit)×(List (Int))×Unit)))))
def wC(x:Sb×Unit):Option (Sb×Unit) :=
 aa (Loop (lV x) (((),((0:Int),())),(([]:List (Int)),()))) (fun(y1:(Unit×Int×Unit)×(List (Int))×Unit)=>some (aT y1.2.1,()))
def zA(x:Sb×Unit):Option (Sb×Unit) :=
 aa (wA (x.1,())) (fun(y1:(List (Int))×Unit)=>aq (inside (0:Int) (32:Int) (32:Int))
 (aa (wC (aT (@sub Int y1.1 (0:Int) (minus (32:Int) (0:Int))),())) (fun(y2:Sb×Unit)=>aq (fits (plus (@len UInt8 ([(115:UInt8),(104:UInt8),(97:UInt8),(50:UInt8),(53:UInt8),(54:UInt8),(58:UInt8)]:List (UInt8))) (@len UInt8 y2.1)))
 (some (@app UInt8 ([(115:UInt8),(104:UInt8),(97:UInt8),(50:UInt8),(53:UInt8),(54:UInt8),(58:UInt8)]:List (UInt8)) y2.1,()))
 none))
 none)
end Go.Ge
namespace Go.Ge
variable [Lp]
set_option maxRecDepth 100000
abbrev FE:=((Sb×Unit)×(List (Bool))×Unit)
abbrev uy:=(Int×Int×Unit)
abbrev Bu:=(Bool×Int×Unit)
abbrev N8:=(Int×Bool×Int×Int×Unit)
abbrev X2:=((Nat×(Sb×Unit)×(List (Bool))×Unit))
abbrev N9:=((Sb×Unit)×Unit)
abbrev aex:=(Sb×Int×Int×Int×Int×Int×Int×Sb×Unit)
abbrev acI:=(Nat×Bu×(List (Bool))×Unit)
def oO(x:Int×Int×Unit):Option (Bool×Unit) :=
 some (aq (cK (0:Int) x.1)
 (aX x.1 x.2.1)
 false,())
def vt(x:Sb×Int×Unit):Option (Bool×Unit) :=
 aa (aq (aq (nt (bX x.1 ([]:List (UInt8))))
 (cK (@len UInt8 x.1) x.2.1)
 false)
 (aa (gb (x.1,((0:Int),()))) (fun(y1:Int×Unit)=>some (aX y1.1 (0:Int))))
 (some false)) (fun(y1:Bool)=>some (y1,()))
def I4(x:aex×Int×Unit):Option (Bool×Unit) :=
 aa (oO (x.1.2.2.1,((2097152:Int),()))) (fun(y1:Bool×Unit)=>aa (aq y1.1
 (aa (oO (x.1.2.2.2.1,((2097152:Int),()))) (fun(y2:Bool×Unit)=>some y2.1))
 (some false)) (fun(y2:Bool)=>aa (aq y2
 (aa (oO (x.1.2.2.2.2.1,((2097152:Int),()))) (fun(y3:Bool×Unit)=>some y3.1))
 (some false)) (fun(y3:Bool)=>aa (aq y3
 (aa (oO (x.1.2.2.2.2.2.1,((8589934592:Int),()))) (fun(y4:Bool×Unit)=>some y4.1))
 (some false)) (fun(y4:Bool)=>aa (aq y4
 (aa (oO (x.1.2.2.2.2.2.2.1,((8589934592:Int),()))) (fun(y5:Bool×Unit)=>some y5.1))
 (some false)) (fun(y5:Bool)=>aa (aq (nt (nt y5))
 (aa (vt (x.1.1,(x.2.1,()))) (fun(y6:Bool×Unit)=>some (nt y6.1)))
 (some true)) (fun(y6:Bool)=>aq y6
 (some (false,()))
 (aq (bI x.1.2.1 (1:Int))
 (some (bX x.1.2.2.2.2.2.2.2.1 ([]:List (UInt8)),()))
 (aq (bI x.1.2.1 (2:Int))
 (some (aq (bX x.1.2.2.2.2.2.2.2.1 ([]:List (UInt8)))
 (bI x.1.2.2.2.2.2.1 (0:Int))
 false,()))
 (aq (bI x.1.2.1 (3:Int))
 (aa (vt (x.1.2.2.2.2.2.2.2.1,((100:Int),()))) (fun(y7:Bool×Unit)=>some (aq y7.1
 (bI x.1.2.2.2.2.2.1 (0:Int))
 false,())))
 (some (false,())))))))))))
def nS(x:Unit):Option ((List uy)×Unit) :=
 some (([((0:Int),((100:Int),())),((100:Int),((8:Int),())),((108:Int),((8:Int),())),((116:Int),((8:Int),())),((124:Int),((12:Int),())),((136:Int),((12:Int),())),((148:Int),((8:Int),())),((156:Int),((1:Int),())),((157:Int),((100:Int),())),((257:Int),((8:Int),())),((345:Int),((155:Int),()))]:List uy),())
def J2(x:Sb×Unit)(y2:Int×Int×Unit)(y3:uy×Unit):Option ((uy×Unit)⊕(uy×Unit)) :=
 @cM (uy×Unit) (aq (aX y3.1.2.1 (@len Int (az x.1)))
 (aq (within y3.1.2.1 (@len Int (az x.1)))
 (aa (@idx Int (az x.1) y3.1.2.1) (fun(y4:Int)=>some (Sum.inl ((aD IntKind.i64 y3.1.1 (kT IntKind.i64 (((aq (aq (cK y2.1 y3.1.2.1)
 (aX y3.1.2.1 (aD IntKind.i64 y2.1 y2.2.1))
 false)
 (((32:Int),()),())
 ((y4,()),())).1).1)),(aD IntKind.i64 y3.1.2.1 (1:Int),())),()):((uy×Unit))⊕((Nat×uy×Unit)))))
 none)
 (some (Sum.inr ((0:Nat),((y3.1.1,(y3.1.2.1,())),())):((uy×Unit))⊕((Nat×uy×Unit)))))
def FF(x:Sb×Unit):Option (Int×Unit) :=
 aa (nS ()) (fun(y1:(List uy)×Unit)=>aa (@idx uy y1.1 (6:Int)) (fun(y2:Int×Int×Unit)=>aq (fits (@len UInt8 x.1))
 (aa (Loop (J2 x y2) (((0:Int),((0:Int),())),())) (fun(y3:uy×Unit)=>some (y3.1.1,())))
 none))
def b9(x:Sb×Int×Unit):Option (Sb×Unit) :=
 aa (nS ()) (fun(y1:(List uy)×Unit)=>aa (@idx uy y1.1 x.2.1) (fun(y2:Int×Int×Unit)=>aq (inside y2.1 (aD IntKind.i64 y2.1 y2.2.1) (@len UInt8 x.1))
 (some (@sub UInt8 x.1 y2.1 (minus (aD IntKind.i64 y2.1 y2.2.1) y2.1),()))
 none))
def vu(x:Sb×Int×Unit)(y1:(Sb×Unit)×Unit):Option (N9⊕N9) :=
 @cM N9 (aa (aq (aX (0:Int) (@len UInt8 y1.1.1))
 (aa (@idx UInt8 y1.1.1 (cL IntKind.i64 (@len UInt8 y1.1.1) (1:Int))) (fun(y2:UInt8)=>some (bI (u8 y2) x.2.1)))
 (some false)) (fun(y2:Bool)=>aq y2
 (aq (inside (0:Int) (cL IntKind.i64 (@len UInt8 y1.1.1) (1:Int)) (@len UInt8 y1.1.1))
 (some (Sum.inl ((@sub UInt8 y1.1.1 (0:Int) (minus (cL IntKind.i64 (@len UInt8 y1.1.1) (1:Int)) (0:Int)),()),()):(N9)⊕((Nat×(Sb×Unit)×Unit))))
 none)
 (some (Sum.inr ((0:Nat),((y1.1.1,()),())):(N9)⊕((Nat×(Sb×Unit)×Unit))))))
def jI(x:Sb×Int×Unit):Option (Sb×Unit) :=
 aa (Loop (vu x) ((x.1,()),())) (fun(y1:(Sb×Unit)×Unit)=>some (y1.1.1,()))
def dH(x:Sb×Unit)(y1:Bu×(List (Bool))×Unit):Option ((Bu×(List (Bool))×Unit)⊕acI) :=
 aq (aX y1.1.2.1 (@len UInt8 x.1))
 (aa (@idx UInt8 x.1 y1.1.2.1) (fun(y2:UInt8)=>aq (cK (128:Int) (u8 y2))
 (some (Sum.inr ((1:Nat),((false,(y1.1.2.1,())),(y1.2.1,()))):((Bu×(List (Bool))×Unit))⊕(acI)))
 (aq (within (u8 y2) (256:Int))
 (aa (@idx Bool y1.2.1 (u8 y2)) (fun(y3:Bool)=>aa (@idx Bool y1.2.1 (u8 y2)) (fun(y4:Bool)=>aa (@idx Bool y1.2.1 (u8 y2)) (fun(y5:Bool)=>some (Sum.inl ((y1.1.1,(aD IntKind.i64 y1.1.2.1 (1:Int),())),(@nq Bool y1.2.1 (u8 y2) true,())):((Bu×(List (Bool))×Unit))⊕(acI))))))
 none)))
 (some (Sum.inr ((0:Nat),((y1.1.1,(y1.1.2.1,())),(y1.2.1,()))):((Bu×(List (Bool))×Unit))⊕(acI)))
def eH(x:Sb×Unit):Option ((List (Bool))×Bool×Unit) :=
 aa (Loop (dH x) ((false,((0:Int),())),(((List.replicate 256 false):List (Bool)),()))) (fun(y1:Nat×Bu×(List (Bool))×Unit)=>aq (eY y1.1 (0:Nat))
 (some (y1.2.2.1,(true,())))
 (some (y1.2.2.1,(y1.2.1.1,()))))
def cV(x:(Int×Unit)×(List (Bool))×Unit):Option ((Bool×Unit)×(List (Bool))×Unit) :=
 aq (within x.1.1 (256:Int))
 (aa (@idx Bool x.2.1 x.1.1) (fun(y1:Bool)=>some ((y1,()),(x.2.1,()))))
 none
def cW(y1:(Sb×Unit)×(List (Bool))×Unit):Option (FE⊕FE) :=
 @cM FE (aq (aX (0:Int) (@len UInt8 y1.1.1))
 (aa (@idx UInt8 y1.1.1 (cL IntKind.i64 (@len UInt8 y1.1.1) (1:Int))) (fun(y2:UInt8)=>aa (cV ((u8 y2,()),(y1.2.1,()))) (fun(y3:(Bool×Unit)×(List (Bool))×Unit)=>aq (nt y3.1.1)
 (some (Sum.inr ((0:Nat),((y1.1.1,()),(y3.2.1,()))):(FE)⊕X2))
 (aq (inside (0:Int) (cL IntKind.i64 (@len UInt8 y1.1.1) (1:Int)) (@len UInt8 y1.1.1))
 (some (Sum.inl ((@sub UInt8 y1.1.1 (0:Int) (minus (cL IntKind.i64 (@len UInt8 y1.1.1) (1:Int)) (0:Int)),()),(y3.2.1,())):(FE)⊕X2))
 none))))
 (some (Sum.inr ((0:Nat),((y1.1.1,()),(y1.2.1,()))):(FE)⊕X2)))
def dP(x:(Sb×Unit)×(List (Bool))×Unit):Option FE :=
 aa (Loop (cW) ((x.1.1,()),(x.2.1,()))) (fun(y1:(Sb×Unit)×(List (Bool))×Unit)=>some ((y1.1.1,()),(y1.2.1,())))
def mX(x:Sb×Sb×Unit):Option (Sb×Unit) :=
 aq (aq (nt (bX x.1 ([]:List (UInt8))))
 (bX x.2.1 ([]:List (UInt8)))
 true)
 (some (x.1,()))
 (aa (aq (bI (@len UInt8 x.2.1) (1:Int))
 (aa (@idx UInt8 x.2.1 (0:Int)) (fun(y1:UInt8)=>some (aX (u8 y1) (128:Int))))
 (some false)) (fun(y1:Bool)=>aq y1
 (aa (@idx UInt8 x.2.1 (0:Int)) (fun(y2:UInt8)=>aa (jI (x.1,(u8 y2,()))) (fun(y3:Sb×Unit)=>some (y3.1,()))))
 (aa (eH (x.2.1,())) (fun(y2:(List (Bool))×Bool×Unit)=>aq y2.2.1
 (aa (dP ((x.1,()),(y2.1,()))) (fun(y3:(Sb×Unit)×(List (Bool))×Unit)=>some (y3.1.1,())))
 none))))
def AX(x:Sb×Unit)(y1:N8×Unit):Option ((N8×Unit)⊕(Nat×N8×Unit)) :=
 aq (aX y1.1.2.2.2.1 (@len Int (az x.1)))
 (aq (within y1.1.2.2.2.1 (@len Int (az x.1)))
 (aa (@idx Int (az x.1) y1.1.2.2.2.1) (fun(y2:Int)=>aq (aq (nt (aX y2 (48:Int)))
 (aX (55:Int) y2)
 true)
 (some (Sum.inr ((1:Nat),(((0:Int),(false,(y1.1.2.2.1,(y1.1.2.2.2.1,())))),())):((N8×Unit))⊕((Nat×N8×Unit))))
 (aq (aX (3:Int) (0:Int))
 none
 (some (Sum.inl ((y1.1.1,(y1.1.2.1,(zb IntKind.i64 (mU IntKind.i64 y1.1.2.2.1 (3:Int)) (kT IntKind.i64 (cL IntKind.u8 y2 (48:Int))),(aD IntKind.i64 y1.1.2.2.2.1 (1:Int),())))),()):((N8×Unit))⊕((Nat×N8×Unit)))))))
 none)
 (some (Sum.inr ((0:Nat),((y1.1.1,(y1.1.2.1,(y1.1.2.2.1,(y1.1.2.2.2.1,())))),())):((N8×Unit))⊕((Nat×N8×Unit))))
def vv(x:Sb×Unit):Option (Int×Bool×Unit) :=
 aq (aq (nt (aX (@len UInt8 x.1) (1:Int)))
 (aX (21:Int) (@len UInt8 x.1))
 true)
 (some ((0:Int),(false,())))
 (aq (fits (@len UInt8 x.1))
 (aa (Loop (AX x) (((0:Int),(false,((0:Int),((0:Int),())))),())) (fun(y1:Nat×N8×Unit)=>aq (eY y1.1 (0:Nat))
 (some (y1.2.1.2.2.1,(true,())))
 (some (y1.2.1.1,(y1.2.1.2.1,())))))
 none)
def fV(x:Sb×Unit):Option (Int×Unit) :=
 aa (mX (x.1,(([(0:UInt8),(32:UInt8)]:List (UInt8)),()))) (fun(y1:Sb×Unit)=>aa (vv (y1.1,())) (fun(y2:Int×Bool×Unit)=>aq (aq (nt (nt y2.2.1))
 (bI (@len UInt8 y1.1) (@len UInt8 x.1))
 true)
 (some ((-1:Int),()))
 (some (y2.1,()))))
def rI(x:Sb×Unit):Option (Sb×Bool×Unit) :=
 aa (mX (x.1,(([(0:UInt8)]:List (UInt8)),()))) (fun(y1:Sb×Unit)=>aa (gb (y1.1,((0:Int),()))) (fun(y2:Int×Unit)=>some (y1.1,(aX y2.1 (0:Int),()))))
def C8(x:Sb×Unit):Option (aex×Int×Unit) :=
 aa (aq (nt (nt (bI (@len UInt8 x.1) (512:Int))))
 (aa (b9 (x.1,((9:Int),()))) (fun(y1:Sb×Unit)=>some (nt (bX y1.1 ([(117:UInt8),(115:UInt8),(116:UInt8),(97:UInt8),(114:UInt8),(0:UInt8),(48:UInt8),(48:UInt8)]:List (UInt8))))))
 (some true)) (fun(y1:Bool)=>aa (aq (nt y1)
 (aa (b9 (x.1,((6:Int),()))) (fun(y2:Sb×Unit)=>aa (fV (y2.1,())) (fun(y3:Int×Unit)=>aa (FF (x.1,())) (fun(y4:Int×Unit)=>some (nt (bI y3.1 y4.1))))))
 (some true)) (fun(y2:Bool)=>aq y2
 (some ((([]:List (UInt8)),((0:Int),((0:Int),((0:Int),((0:Int),((0:Int),((0:Int),(([]:List (UInt8)),())))))))),((2:Int),())))
 (aa (b9 (x.1,((0:Int),()))) (fun(y3:Sb×Unit)=>aa (rI (y3.1,())) (fun(y4:Sb×Bool×Unit)=>aa (b9 (x.1,((8:Int),()))) (fun(y5:Sb×Unit)=>aa (rI (y5.1,())) (fun(y6:Sb×Bool×Unit)=>aa (b9 (x.1,((10:Int),()))) (fun(y7:Sb×Unit)=>aa (rI (y7.1,())) (fun(y8:Sb×Bool×Unit)=>aa (aq (nt (bX y8.1 ([]:List (UInt8))))
 (aq (fits (plus (@len UInt8 y8.1) (@len UInt8 ([(47:UInt8)]:List (UInt8)))))
 (aq (fits (plus (@len UInt8 (@app UInt8 y8.1 ([(47:UInt8)]:List (UInt8)))) (@len UInt8 y4.1)))
 (some ((@app UInt8 (@app UInt8 y8.1 ([(47:UInt8)]:List (UInt8))) y4.1,()),()))
 none)
 none)
 (some ((y4.1,()),()))) (fun(y9:(Sb×Unit)×Unit)=>aa (b9 (x.1,((1:Int),()))) (fun(qv:Sb×Unit)=>aa (fV (qv.1,())) (fun(nR:Int×Unit)=>aa (b9 (x.1,((2:Int),()))) (fun(jq:Sb×Unit)=>aa (fV (jq.1,())) (fun(gq:Int×Unit)=>aa (b9 (x.1,((3:Int),()))) (fun(AW:Sb×Unit)=>aa (fV (AW.1,())) (fun(Pq:Int×Unit)=>aa (b9 (x.1,((4:Int),()))) (fun(YO:Sb×Unit)=>aa (fV (YO.1,())) (fun(RC:Int×Unit)=>aa (b9 (x.1,((5:Int),()))) (fun(y18:Sb×Unit)=>aa (fV (y18.1,())) (fun(VJ:Int×Unit)=>aa (b9 (x.1,((7:Int),()))) (fun(Ul:Sb×Unit)=>aa (aq (nt (aq (nt (aq (nt (nt y4.2.1))
 (nt y6.2.1)
 true))
 (nt y8.2.1)
 true))
 (aa (I4 (((aq (((aq (bX Ul.1 ([(48:UInt8)]:List (UInt8)))
 ((bX Ul.1 ([(48:UInt8)]:List (UInt8)),()),())
 ((bX Ul.1 ([(0:UInt8)]:List (UInt8)),()),())).1).1)
 ((),((y9.1.1,((1:Int),(nR.1,(gq.1,(Pq.1,(RC.1,(VJ.1,(([]:List (UInt8)),())))))))),()))
 ((),(((aq (bX Ul.1 ([(53:UInt8)]:List (UInt8)))
 ((),((y9.1.1,((2:Int),(nR.1,(gq.1,(Pq.1,(RC.1,(VJ.1,(([]:List (UInt8)),())))))))),()))
 ((),(((aq (bX Ul.1 ([(50:UInt8)]:List (UInt8)))
 ((),((y9.1.1,((3:Int),(nR.1,(gq.1,(Pq.1,(RC.1,(VJ.1,(y6.1,())))))))),()))
 ((),((y9.1.1,((0:Int),(nR.1,(gq.1,(Pq.1,(RC.1,(VJ.1,(([]:List (UInt8)),())))))))),()))).2).1,()))).2).1,()))).2).1,((256:Int),()))) (fun(y21:Bool×Unit)=>some (nt y21.1)))
 (some true)) (fun(y21:Bool)=>aq y21
 (some ((([]:List (UInt8)),((0:Int),((0:Int),((0:Int),((0:Int),((0:Int),((0:Int),(([]:List (UInt8)),())))))))),((2:Int),())))
 (some (((aq (((aq (bX Ul.1 ([(48:UInt8)]:List (UInt8)))
 ((bX Ul.1 ([(48:UInt8)]:List (UInt8)),()),())
 ((bX Ul.1 ([(0:UInt8)]:List (UInt8)),()),())).1).1)
 ((),((y9.1.1,((1:Int),(nR.1,(gq.1,(Pq.1,(RC.1,(VJ.1,(([]:List (UInt8)),())))))))),()))
 ((),(((aq (bX Ul.1 ([(53:UInt8)]:List (UInt8)))
 ((),((y9.1.1,((2:Int),(nR.1,(gq.1,(Pq.1,(RC.1,(VJ.1,(([]:List (UInt8)),())))))))),()))
 ((),(((aq (bX Ul.1 ([(50:UInt8)]:List (UInt8)))
 ((),((y9.1.1,((3:Int),(nR.1,(gq.1,(Pq.1,(RC.1,(VJ.1,(y6.1,())))))))),()))
 ((),((y9.1.1,((0:Int),(nR.1,(gq.1,(Pq.1,(RC.1,(VJ.1,(([]:List (UInt8)),())))))))),()))).2).1,()))).2).1,()))).2).1,((0:Int),())))))))))))))))))))))))))
def vV(x:Sb×Int×Unit)(y1:(Sb×Unit)×Unit):Option (N9⊕N9) :=
 @cM N9 (aa (aq (aX (0:Int) (@len UInt8 y1.1.1))
 (aa (@idx UInt8 y1.1.1 (0:Int)) (fun(y2:UInt8)=>some (bI (u8 y2) x.2.1)))
 (some false)) (fun(y2:Bool)=>aq y2
 (aq (inside (1:Int) (@len UInt8 y1.1.1) (@len UInt8 y1.1.1))
 (some (Sum.inl ((@sub UInt8 y1.1.1 (1:Int) (minus (@len UInt8 y1.1.1) (1:Int)),()),()):(N9)⊕((Nat×(Sb×Unit)×Unit))))
 none)
 (some (Sum.inr ((0:Nat),((y1.1.1,()),())):(N9)⊕((Nat×(Sb×Unit)×Unit))))))
def pM(x:Sb×Int×Unit):Option (Sb×Unit) :=
 aa (Loop (vV x) ((x.1,()),())) (fun(y1:(Sb×Unit)×Unit)=>some (y1.1.1,()))
def dx(y1:(Sb×Unit)×(List (Bool))×Unit):Option (FE⊕FE) :=
 @cM FE (aq (aX (0:Int) (@len UInt8 y1.1.1))
 (aa (@idx UInt8 y1.1.1 (0:Int)) (fun(y2:UInt8)=>aa (cV ((u8 y2,()),(y1.2.1,()))) (fun(y3:(Bool×Unit)×(List (Bool))×Unit)=>aq (nt y3.1.1)
 (some (Sum.inr ((0:Nat),((y1.1.1,()),(y3.2.1,()))):(FE)⊕X2))
 (aq (inside (1:Int) (@len UInt8 y1.1.1) (@len UInt8 y1.1.1))
 (some (Sum.inl ((@sub UInt8 y1.1.1 (1:Int) (minus (@len UInt8 y1.1.1) (1:Int)),()),(y3.2.1,())):(FE)⊕X2))
 none))))
 (some (Sum.inr ((0:Nat),((y1.1.1,()),(y1.2.1,()))):(FE)⊕X2)))
def fM(x:(Sb×Unit)×(List (Bool))×Unit):Option FE :=
 aa (Loop (dx) ((x.1.1,()),(x.2.1,()))) (fun(y1:(Sb×Unit)×(List (Bool))×Unit)=>some ((y1.1.1,()),(y1.2.1,())))
def lW(x:Sb×Sb×Unit):Option (Sb×Unit) :=
 aq (aq (nt (bX x.1 ([]:List (UInt8))))
 (bX x.2.1 ([]:List (UInt8)))
 true)
 (some (x.1,()))
 (aa (aq (bI (@len UInt8 x.2.1) (1:Int))
 (aa (@idx UInt8 x.2.1 (0:Int)) (fun(y1:UInt8)=>some (aX (u8 y1) (128:Int))))
 (some false)) (fun(y1:Bool)=>aq y1
 (aa (@idx UInt8 x.2.1 (0:Int)) (fun(y2:UInt8)=>aa (jI (x.1,(u8 y2,()))) (fun(y3:Sb×Unit)=>aa (@idx UInt8 x.2.1 (0:Int)) (fun(y4:UInt8)=>aa (pM (y3.1,(u8 y4,()))) (fun(y5:Sb×Unit)=>some (y5.1,()))))))
 (aa (eH (x.2.1,())) (fun(y2:(List (Bool))×Bool×Unit)=>aq y2.2.1
 (aa (dP ((x.1,()),(y2.1,()))) (fun(y3:(Sb×Unit)×(List (Bool))×Unit)=>aa (fM ((y3.1.1,()),(y3.2.1,()))) (fun(y4:(Sb×Unit)×(List (Bool))×Unit)=>some (y4.1.1,()))))
 none))))
def C9(x:Sb×Unit):Option (Bool×Unit) :=
 aa (aq (bI (@len UInt8 x.1) (512:Int))
 (aa (lW (x.1,(([(0:UInt8)]:List (UInt8)),()))) (fun(y1:Sb×Unit)=>some (bX y1.1 ([]:List (UInt8)))))
 (some false)) (fun(y1:Bool)=>some (y1,()))
def HB(x:Sb×Int×Unit)(y1:Bu×Unit):Option ((Bu×Unit)⊕(Nat×Bu×Unit)) :=
 aq (aX y1.1.2.1 (@len UInt8 x.1))
 (aa (@idx UInt8 x.1 y1.1.2.1) (fun(y2:UInt8)=>aq (bI (u8 y2) (0:Int))
 (some (Sum.inr ((1:Nat),((false,(y1.1.2.1,())),())):((Bu×Unit))⊕((Nat×Bu×Unit))))
 (some (Sum.inl ((y1.1.1,(aD IntKind.i64 y1.1.2.1 (1:Int),())),()):((Bu×Unit))⊕((Nat×Bu×Unit))))))
 (some (Sum.inr ((0:Nat),((y1.1.1,(y1.1.2.1,())),())):((Bu×Unit))⊕((Nat×Bu×Unit))))
def xC(x:Sb×Int×Unit):Option (Bool×Unit) :=
 aa (Loop (HB x) ((false,((0:Int),())),())) (fun(y1:Nat×Bu×Unit)=>aq (eY y1.1 (0:Nat))
 (some (aq (cK (1:Int) (@len UInt8 x.1))
 (cK (@len UInt8 x.1) x.2.1)
 false,()))
 (some (y1.2.1.1,())))
def qT(x:Int×Int×Unit):Option (Bool×Unit) :=
 some (aq (cK (0:Int) x.1)
 (aX x.1 x.2.1)
 false,())
def I5(x:aex×Int×Unit):Option (Bool×Unit) :=
 aa (aq (bI x.1.2.1 (3:Int))
 (aa (xC (x.1.2.2.2.2.2.2.2.1,((100:Int),()))) (fun(y1:Bool×Unit)=>some ((y1.1,()),())))
 (some ((bX x.1.2.2.2.2.2.2.2.1 ([]:List (UInt8)),()),()))) (fun(y1:(Bool×Unit)×Unit)=>aa (xC (x.1.1,(x.2.1,()))) (fun(y2:Bool×Unit)=>aa (aq (aq (aq y2.1
 (cK (1:Int) x.1.2.1)
 false)
 (cK x.1.2.1 (3:Int))
 false)
 (aa (qT (x.1.2.2.1,((2097152:Int),()))) (fun(y3:Bool×Unit)=>some y3.1))
 (some false)) (fun(y3:Bool)=>aa (aq y3
 (aa (qT (x.1.2.2.2.1,((2097152:Int),()))) (fun(y4:Bool×Unit)=>some y4.1))
 (some false)) (fun(y4:Bool)=>aa (aq y4
 (aa (qT (x.1.2.2.2.2.1,((2097152:Int),()))) (fun(y5:Bool×Unit)=>some y5.1))
 (some false)) (fun(y5:Bool)=>aa (aq y5
 (aa (qT (x.1.2.2.2.2.2.1,((8589934592:Int),()))) (fun(y6:Bool×Unit)=>some y6.1))
 (some false)) (fun(y6:Bool)=>aa (aq y6
 (aa (qT (x.1.2.2.2.2.2.2.1,((8589934592:Int),()))) (fun(y7:Bool×Unit)=>some y7.1))
 (some false)) (fun(y7:Bool)=>some (aq (aq y7
 (aq (nt (bI x.1.2.2.2.2.2.1 (0:Int)))
 (bI x.1.2.1 (1:Int))
 true)
 false)
 y1.1.1
 false,()))))))))
def Mx(x:Sb×Unit)(y1:uy×Unit):Option ((uy×Unit)⊕(uy×Unit)) :=
 @cM (uy×Unit) (aq (aX y1.1.2.1 (@len UInt8 x.1))
 (aa (aq (aq (cK (148:Int) y1.1.2.1)
 (aX y1.1.2.1 (156:Int))
 false)
 (some ((aD IntKind.i64 y1.1.1 (32:Int),()),()))
 (aa (@idx UInt8 x.1 y1.1.2.1) (fun(y2:UInt8)=>some ((aD IntKind.i64 y1.1.1 (kT IntKind.i64 (u8 y2)),()),())))) (fun(y2:(Int×Unit)×Unit)=>some (Sum.inl ((y2.1.1,(aD IntKind.i64 y1.1.2.1 (1:Int),())),()):((uy×Unit))⊕((Nat×uy×Unit)))))
 (some (Sum.inr ((0:Nat),((y1.1.1,(y1.1.2.1,())),())):((uy×Unit))⊕((Nat×uy×Unit)))))
def I6(x:Sb×Unit):Option (Int×Unit) :=
 aa (Loop (Mx x) (((0:Int),((0:Int),())),())) (fun(y1:uy×Unit)=>some (y1.1.1,()))
end Go.Ge
namespace Go.Ge
variable [Lp]
set_option maxRecDepth 100000
abbrev zB:=((Sb×Int×Int×Int×Int×Int×Int×Sb×Unit)×Sb×Unit)
abbrev yI:=(Bool×Sb×Int×Bool×Bool×Unit)
abbrev aaK:=((Unit×Unit×Bool×Unit)×zB×(List zB)×yI×Unit)
abbrev Oa:=(zB×Bool×Unit)
def xD(x:Int×Unit):Option (Sb×Unit) :=
 aa (mE (([(0:UInt8)]:List (UInt8)),(x.1,()))) (fun(y1:Sb×Unit)=>some (y1.1,()))
def El(x:Int×Unit):Option (Int×Unit) :=
 aq (bI (512:Int) (0:Int))
 none
 (aq (bI (512:Int) (0:Int))
 none
 (some (fR (cL IntKind.i64 (512:Int) (fR x.1 (512:Int))) (512:Int),())))
def eL(x:(Bool×Unit)×yI×Unit):Option (Oa×yI×Unit) :=
 some ((((([]:List (UInt8)),((0:Int),((0:Int),((0:Int),((0:Int),((0:Int),((0:Int),(([]:List (UInt8)),())))))))),(([]:List (UInt8)),())),(false,())),((x.2.1.1,(([]:List (UInt8)),(x.2.1.2.2.1,(true,(x.1.1,x.2.1.2.2.2.2.2))))),()))
def pN(x:Unit×yI×Unit):Option (Oa×yI×Unit) :=
 aq (aq (nt (nt x.2.1.1))
 x.2.1.2.2.2.1
 true)
 (some ((((([]:List (UInt8)),((0:Int),((0:Int),((0:Int),((0:Int),((0:Int),((0:Int),(([]:List (UInt8)),())))))))),(([]:List (UInt8)),())),(false,())),(x.2.1,())))
 (aq (aX (@len UInt8 x.2.1.2.1) (512:Int))
 (aa (eL ((true,()),(x.2.1,()))) (fun(y1:Oa×yI×Unit)=>some ((y1.1.1,(y1.1.2.1,())),(y1.2.1,()))))
 (aq (inside (0:Int) (512:Int) (@len UInt8 x.2.1.2.1))
 (aa (C9 (@sub UInt8 x.2.1.2.1 (0:Int) (minus (512:Int) (0:Int)),())) (fun(y1:Bool×Unit)=>aq y1.1
 (aa (aq (cK (1024:Int) (@len UInt8 x.2.1.2.1))
 (aq (bI (512:Int) (0:Int))
 none
 (some (bI (fR (@len UInt8 x.2.1.2.1) (512:Int)) (0:Int))))
 (some false)) (fun(y2:Bool)=>aa (aq (nt (nt y2))
 (aa (lW (x.2.1.2.1,(([(0:UInt8)]:List (UInt8)),()))) (fun(y3:Sb×Unit)=>some (nt (bX y3.1 ([]:List (UInt8))))))
 (some true)) (fun(y3:Bool)=>aa (eL ((y3,()),(x.2.1,()))) (fun(y4:Oa×yI×Unit)=>some ((y4.1.1,(y4.1.2.1,())),(y4.2.1,()))))))
 (aq (inside (0:Int) (512:Int) (@len UInt8 x.2.1.2.1))
 (aa (C8 (@sub UInt8 x.2.1.2.1 (0:Int) (minus (512:Int) (0:Int)),())) (fun(y2:(Sb×Int×Int×Int×Int×Int×Int×Sb×Unit)×Int×Unit)=>aq (inside (512:Int) (@len UInt8 x.2.1.2.1) (@len UInt8 x.2.1.2.1))
 (aq (nt (bI y2.2.1 (0:Int)))
 (aa (eL ((true,()),(x.2.1,()))) (fun(y3:Oa×yI×Unit)=>some ((y3.1.1,(y3.1.2.1,())),(y3.2.1,()))))
 (aq (aX (@len UInt8 (@sub UInt8 x.2.1.2.1 (512:Int) (minus (@len UInt8 x.2.1.2.1) (512:Int)))) y2.1.2.2.2.2.2.1)
 (aa (eL ((true,()),(x.2.1,()))) (fun(y3:Oa×yI×Unit)=>some ((y3.1.1,(y3.1.2.1,())),(y3.2.1,()))))
 (aa (El (y2.1.2.2.2.2.2.1,())) (fun(y3:Int×Unit)=>aq (aX (@len UInt8 (@sub UInt8 x.2.1.2.1 (512:Int) (minus (@len UInt8 x.2.1.2.1) (512:Int)))) (aD IntKind.i64 y2.1.2.2.2.2.2.1 y3.1))
 (aa (eL ((true,()),(x.2.1,()))) (fun(y4:Oa×yI×Unit)=>some ((y4.1.1,(y4.1.2.1,())),(y4.2.1,()))))
 (aq (cK (64:Int) x.2.1.2.2.1)
 (aa (eL ((true,()),(x.2.1,()))) (fun(y4:Oa×yI×Unit)=>some ((y4.1.1,(y4.1.2.1,())),(y4.2.1,()))))
 (aa (El (y2.1.2.2.2.2.2.1,())) (fun(y4:Int×Unit)=>aq (inside (aD IntKind.i64 y2.1.2.2.2.2.2.1 y4.1) (@len UInt8 (@sub UInt8 x.2.1.2.1 (512:Int) (minus (@len UInt8 x.2.1.2.1) (512:Int)))) (@len UInt8 (@sub UInt8 x.2.1.2.1 (512:Int) (minus (@len UInt8 x.2.1.2.1) (512:Int)))))
 (aq (inside (0:Int) y2.1.2.2.2.2.2.1 (@len UInt8 (@sub UInt8 x.2.1.2.1 (512:Int) (minus (@len UInt8 x.2.1.2.1) (512:Int)))))
 (some (((y2.1,(@sub UInt8 (@sub UInt8 x.2.1.2.1 (512:Int) (minus (@len UInt8 x.2.1.2.1) (512:Int))) (0:Int) (minus y2.1.2.2.2.2.2.1 (0:Int)),())),(true,())),((x.2.1.1,(@sub UInt8 (@sub UInt8 x.2.1.2.1 (512:Int) (minus (@len UInt8 x.2.1.2.1) (512:Int))) (aD IntKind.i64 y2.1.2.2.2.2.2.1 y4.1) (minus (@len UInt8 (@sub UInt8 x.2.1.2.1 (512:Int) (minus (@len UInt8 x.2.1.2.1) (512:Int)))) (aD IntKind.i64 y2.1.2.2.2.2.2.1 y4.1)),(aD IntKind.i64 x.2.1.2.2.1 (1:Int),x.2.1.2.2.2))),())))
 none)
 none)))))))
 none))
 none)))
 none))
def yJ(x:Unit×yI×Unit):Option ((Bool×Unit)×yI×Unit) :=
 some ((x.2.1.2.2.2.2.1,()),(x.2.1,()))
def Ob(y2:(Unit×Unit×Bool×Unit)×zB×(List zB)×yI×Unit):Option (aaK⊕aaK) :=
 @cM aaK (aq y2.1.2.2.1
 (aq (fits (plus (@len zB y2.2.2.1) (@len zB ([y2.2.1]:List zB))))
 (aa (pN ((),(y2.2.2.2.1,()))) (fun(y3:Oa×yI×Unit)=>some (Sum.inl (((),((),(y3.1.2.1,()))),(y3.1.1,(@app zB y2.2.2.1 ([y2.2.1]:List zB),(y3.2.1,())))):(aaK)⊕((Nat×(Unit×Unit×Bool×Unit)×zB×(List zB)×yI×Unit)))))
 none)
 (some (Sum.inr ((0:Nat),(((),((),(y2.1.2.2.1,()))),(y2.2.1,(y2.2.2.1,(y2.2.2.2.1,()))))):(aaK)⊕((Nat×(Unit×Unit×Bool×Unit)×zB×(List zB)×yI×Unit)))))
def zC(x:Sb×Unit):Option ((List zB)×Int×Unit) :=
 aa (pN ((),((true,(x.1,((0:Int),(aX (8192:Int) (@len UInt8 x.1),(aX (8192:Int) (@len UInt8 x.1),()))))),()))) (fun(y1:Oa×yI×Unit)=>aa (Loop (Ob) (((),((),(y1.1.2.1,()))),(y1.1.1,(([]:List zB),(y1.2.1,()))))) (fun(y2:(Unit×Unit×Bool×Unit)×zB×(List zB)×yI×Unit)=>aa (yJ ((),(y2.2.2.2.1,()))) (fun(y3:(Bool×Unit)×yI×Unit)=>aq y3.1.1
 (some (([]:List zB),((10:Int),())))
 (some (y2.2.2.1,((0:Int),()))))))
def HC(y1:(Int×Unit)×Unit):Option (((Int×Unit)×Unit)⊕((Int×Unit)×Unit)) :=
 @cM ((Int×Unit)×Unit) (aq (bI (512:Int) (0:Int))
 none
 (aq (nt (bI (fR y1.1.1 (512:Int)) (0:Int)))
 (some (Sum.inl ((aD IntKind.i64 y1.1.1 (1:Int),()),()):(((Int×Unit)×Unit))⊕((Nat×(Int×Unit)×Unit))))
 (some (Sum.inr ((0:Nat),((y1.1.1,()),())):(((Int×Unit)×Unit))⊕((Nat×(Int×Unit)×Unit))))))
def xE(x:Int×Unit):Option (Int×Unit) :=
 aa (Loop (HC) ((x.1,()),())) (fun(y1:(Int×Unit)×Unit)=>some (y1.1.1,()))
end Go.Ge
namespace Go.Ge
variable [Lp]
set_option maxRecDepth 100000
abbrev yK:=(Bool×Int×Unit)
abbrev sX:=(Int×Int×Unit)
abbrev zD:=(Int×Int×Int×Unit)
abbrev uz:=(Nat×yK×Unit)
abbrev vW:=(Nat×sX×Unit)
abbrev Oc:=(Sb×Int×Unit×Int×Unit)
abbrev aaL:=((Unit×Sb×Int×Unit)×(List Sb)×Unit)
abbrev AY:=((yK×Unit))
abbrev AZ:=((sX×Unit))
abbrev aaM:=((Unit×Int×Unit)×(List Sb)×Unit)
abbrev Bw:=(Sb×Int×Unit)
def gA(x:Sb×Unit):Option ((List Sb)×Unit) :=
 aq (bX x.1 ([]:List (UInt8)))
 (some (([]:List Sb),()))
 (aa (Au (x.1,(([(47:UInt8)]:List (UInt8)),()))) (fun(y1:(List Sb)×Unit)=>some (y1.1,())))
def FG(x:Sb×Unit)(y1:yK×Unit):Option ((yK×Unit)⊕uz) :=
 aq (aX y1.1.2.1 (2:Int))
 (aa (@idx Sb ([([(46:UInt8)]:List (UInt8)),([(46:UInt8),(46:UInt8)]:List (UInt8))]:List Sb) y1.1.2.1) (fun(y2:List (UInt8))=>aq (bX x.1 y2)
 (some (Sum.inr ((1:Nat),((false,(y1.1.2.1,())),())):AY⊕(uz)))
 (some (Sum.inl ((y1.1.1,(aD IntKind.i64 y1.1.2.1 (1:Int),())),()):AY⊕(uz)))))
 (some (Sum.inr ((0:Nat),((y1.1.1,(y1.1.2.1,())),())):AY⊕(uz)))
def Bx(x:Sb×Unit):Option (Bool×Unit) :=
 aa (Loop (FG x) ((false,((0:Int),())),())) (fun(y1:Nat×yK×Unit)=>aq (eY y1.1 (0:Nat))
 (aa (aq (aq (cK (1:Int) (@len UInt8 x.1))
 (cK (@len UInt8 x.1) (32:Int))
 false)
 (aa (gb (x.1,((0:Int),()))) (fun(y2:Int×Unit)=>some (aX y2.1 (0:Int))))
 (some false)) (fun(y2:Bool)=>some (y2,())))
 (some (y1.2.1.1,())))
def cw(x:Sb×Sb×Unit):Option (Bool×Unit) :=
 aa (cq (x.1,(x.2.1,()))) (fun(y1:Bool×Unit)=>some (y1.1,()))
def HD(y1:(List Sb)×Unit)(y2:Oc×(List Sb)×Unit):Option ((Oc×(List Sb)×Unit)⊕(Nat×Oc×(List Sb)×Unit)) :=
 aq (aX y2.1.2.2.2.1 (@len Sb y1.1))
 (aa (@idx Sb y1.1 y2.1.2.2.2.1) (fun(y3:List (UInt8))=>aa (aq (aq (nt (bX y3 ([]:List (UInt8))))
 (bX y3 ([(46:UInt8)]:List (UInt8)))
 true)
 (some ((0:Nat),((y2.1.1,(y2.1.2.1,((),()))),(y2.2.1,()))))
 (aa (Bx (y3,())) (fun(y4:Bool×Unit)=>aq (nt y4.1)
 (some ((1:Nat),((([]:List (UInt8)),((2:Int),((),()))),(y2.2.1,()))))
 (aq (fits (plus (@len Sb y2.2.1) (@len Sb ([y3]:List Sb))))
 (some ((0:Nat),((y2.1.1,(y2.1.2.1,((),()))),(@app Sb y2.2.1 ([y3]:List Sb),()))))
 none)))) (fun(y4:Nat×(Sb×Int×Unit×Unit)×(List Sb)×Unit)=>aq (eY y4.1 (0:Nat))
 (some (Sum.inl ((y4.2.1.1,(y4.2.1.2.1,((),(aD IntKind.i64 y2.1.2.2.2.1 (1:Int),())))),(y4.2.2.1,())):((Oc×(List Sb)×Unit))⊕((Nat×Oc×(List Sb)×Unit))))
 (some (Sum.inr ((1:Nat),((y4.2.1.1,(y4.2.1.2.1,((),(y2.1.2.2.2.1,())))),(y4.2.2.1,()))):((Oc×(List Sb)×Unit))⊕((Nat×Oc×(List Sb)×Unit)))))))
 (some (Sum.inr ((0:Nat),((y2.1.1,(y2.1.2.1,((),(y2.1.2.2.2.1,())))),(y2.2.1,()))):((Oc×(List Sb)×Unit))⊕((Nat×Oc×(List Sb)×Unit))))
def xF(x:Sb×Unit):Option Bw :=
 aa (gA (x.1,())) (fun(y1:(List Sb)×Unit)=>aa (Loop (HD y1) ((([]:List (UInt8)),((0:Int),((),((0:Int),())))),(([]:List Sb),()))) (fun(y2:Nat×Oc×(List Sb)×Unit)=>aq (eY y2.1 (0:Nat))
 (aa (Br (y2.2.2.1,(([(47:UInt8)]:List (UInt8)),()))) (fun(y3:Sb×Unit)=>aa (cw (x.1,(([(47:UInt8)]:List (UInt8)),()))) (fun(y4:Bool×Unit)=>aq (aq (nt (aq (nt y4.1)
 (aX (8:Int) (@len Sb y2.2.2.1))
 true))
 (aX (96:Int) (@len UInt8 y3.1))
 true)
 (some (([]:List (UInt8)),((2:Int),())))
 (some (y3.1,((0:Int),()))))))
 (some (y2.2.1.1,(y2.2.1.2.1,())))))
def dm(x:(List Sb)×Sb×Unit)(y1:sX×Unit):Option ((sX×Unit)⊕vW) :=
 aq (aX y1.1.2.1 (@len Sb x.1))
 (aa (@idx Sb x.1 y1.1.2.1) (fun(y2:List (UInt8))=>aq (bX x.2.1 y2)
 (some (Sum.inr ((1:Nat),((y1.1.2.1,(y1.1.2.1,())),())):AZ⊕(vW)))
 (some (Sum.inl ((y1.1.1,(aD IntKind.i64 y1.1.2.1 (1:Int),())),()):AZ⊕(vW)))))
 (some (Sum.inr ((0:Nat),((y1.1.1,(y1.1.2.1,())),())):AZ⊕(vW)))
def fW(x:(List Sb)×Sb×Unit):Option (Int×Unit) :=
 aa (Loop (dm x) (((0:Int),((0:Int),())),())) (fun(y1:Nat×sX×Unit)=>aq (eY y1.1 (0:Nat))
 (some ((-1:Int),()))
 (some (y1.2.1.1,())))
def bP(x:(List Sb)×Sb×Unit):Option (Bool×Unit) :=
 aa (fW (x.1,(x.2.1,()))) (fun(y1:Int×Unit)=>some (cK (0:Int) y1.1,()))
def zE(x:Sb×Unit):Option (Int×Sb×Unit) :=
 aa (tP (x.1,(([(46:UInt8),(119:UInt8),(104:UInt8),(46:UInt8)]:List (UInt8)),()))) (fun(y1:Sb×Bool×Unit)=>aq (nt y1.2.1)
 (some ((0:Int),(x.1,())))
 (aq (bX x.1 ([(46:UInt8),(119:UInt8),(104:UInt8),(46:UInt8),(46:UInt8),(119:UInt8),(104:UInt8),(46:UInt8),(46:UInt8),(111:UInt8),(112:UInt8),(113:UInt8)]:List (UInt8)))
 (some ((2:Int),(([]:List (UInt8)),())))
 (aa (cw (y1.1,(([(46:UInt8),(119:UInt8),(104:UInt8),(46:UInt8)]:List (UInt8)),()))) (fun(y2:Bool×Unit)=>aa (aq (nt y2.1)
 (aa (bP (([([]:List (UInt8)),([(46:UInt8)]:List (UInt8)),([(46:UInt8),(46:UInt8)]:List (UInt8))]:List Sb),(y1.1,()))) (fun(y3:Bool×Unit)=>some y3.1))
 (some true)) (fun(y3:Bool)=>aq y3
 (some ((3:Int),(([]:List (UInt8)),())))
 (some ((1:Int),(y1.1,()))))))))
def kD(x:Sb×Int×Unit)(y1:sX×Unit):Option ((sX×Unit)⊕vW) :=
 aq (cK (0:Int) y1.1.2.1)
 (aa (@idx UInt8 x.1 y1.1.2.1) (fun(y2:UInt8)=>aq (bI (u8 y2) x.2.1)
 (some (Sum.inr ((1:Nat),((y1.1.2.1,(y1.1.2.1,())),())):AZ⊕(vW)))
 (some (Sum.inl ((y1.1.1,(cL IntKind.i64 y1.1.2.1 (1:Int),())),()):AZ⊕(vW)))))
 (some (Sum.inr ((0:Nat),((y1.1.1,(y1.1.2.1,())),())):AZ⊕(vW)))
def fE(x:Sb×Int×Unit):Option (Int×Unit) :=
 aa (Loop (kD x) (((0:Int),(cL IntKind.i64 (@len UInt8 x.1) (1:Int),())),())) (fun(y1:Nat×sX×Unit)=>aq (eY y1.1 (0:Nat))
 (some ((-1:Int),()))
 (some (y1.2.1.1,())))
def lE(x:Sb×Unit)(y1:sX×Unit):Option ((sX×Unit)⊕(sX×Unit)) :=
 @cM (sX×Unit) (aq (cK (0:Int) y1.1.2.1)
 (aa (@idx UInt8 x.1 y1.1.2.1) (fun(y2:UInt8)=>some (Sum.inl ((aD IntKind.u32 (iZ IntKind.u32 y1.1.1 (16777619:Int)) (kT IntKind.u32 (u8 y2)),(cL IntKind.i64 y1.1.2.1 (1:Int),())),()):AZ⊕(vW))))
 (some (Sum.inr ((0:Nat),((y1.1.1,(y1.1.2.1,())),())):AZ⊕(vW))))
def lF(y2:zD×Unit):Option ((zD×Unit)⊕(zD×Unit)) :=
 @cM (zD×Unit) (aq (aX (0:Int) y2.1.2.2.1)
 (aq (aX (1:Int) (0:Int))
 none
 (some (Sum.inl ((((aq (nt (bI (ia IntKind.i64 y2.1.2.2.1 (1:Int)) (0:Int)))
 ((iZ IntKind.u32 y2.1.1 y2.1.2.1,()),())
 ((y2.1.1,()),())).1).1,(iZ IntKind.u32 y2.1.2.1 y2.1.2.1,(jS IntKind.i64 y2.1.2.2.1 (1:Int),()))),()):((zD×Unit))⊕((Nat×zD×Unit)))))
 (some (Sum.inr ((0:Nat),((y2.1.1,(y2.1.2.1,(y2.1.2.2.1,()))),())):((zD×Unit))⊕((Nat×zD×Unit)))))
def gd(x:Sb×Unit):Option sX :=
 aa (Loop (lE x) (((0:Int),(cL IntKind.i64 (@len UInt8 x.1) (1:Int),())),())) (fun(y1:sX×Unit)=>aa (Loop (lF) (((1:Int),((16777619:Int),(@len UInt8 x.1,()))),())) (fun(y2:zD×Unit)=>some (y1.1.1,(y2.1.1,()))))
def iL(x:Sb×Sb×Unit)(y2:sX×Unit):Option ((sX×Unit)⊕(sX×Unit)) :=
 @cM (sX×Unit) (aq (cK (cL IntKind.i64 (@len UInt8 x.1) (@len UInt8 x.2.1)) y2.1.2.1)
 (aa (@idx UInt8 x.1 y2.1.2.1) (fun(y3:UInt8)=>some (Sum.inl ((aD IntKind.u32 (iZ IntKind.u32 y2.1.1 (16777619:Int)) (kT IntKind.u32 (u8 y3)),(cL IntKind.i64 y2.1.2.1 (1:Int),())),()):AZ⊕(vW))))
 (some (Sum.inr ((0:Nat),((y2.1.1,(y2.1.2.1,())),())):AZ⊕(vW))))
def iM(x:Sb×Sb×Unit)(y1:Int×Int×Unit)(y4:zD×Unit):Option ((zD×Unit)⊕(Nat×zD×Unit)) :=
 aq (cK (0:Int) y4.1.2.2.1)
 (aa (@idx UInt8 x.1 y4.1.2.2.1) (fun(y5:UInt8)=>aa (@idx UInt8 x.1 (aD IntKind.i64 y4.1.2.2.1 (@len UInt8 x.2.1))) (fun(y6:UInt8)=>aa (aq (bI (cL IntKind.u32 (aD IntKind.u32 (iZ IntKind.u32 y4.1.2.1 (16777619:Int)) (kT IntKind.u32 (u8 y5))) (iZ IntKind.u32 y1.2.1 (kT IntKind.u32 (u8 y6)))) y1.1)
 (aq (inside y4.1.2.2.1 (aD IntKind.i64 y4.1.2.2.1 (@len UInt8 x.2.1)) (@len UInt8 x.1))
 (some (bX (@sub UInt8 x.1 y4.1.2.2.1 (minus (aD IntKind.i64 y4.1.2.2.1 (@len UInt8 x.2.1)) y4.1.2.2.1)) x.2.1))
 none)
 (some false)) (fun(y7:Bool)=>aq y7
 (some (Sum.inr ((1:Nat),((y4.1.2.2.1,(cL IntKind.u32 (aD IntKind.u32 (iZ IntKind.u32 y4.1.2.1 (16777619:Int)) (kT IntKind.u32 (u8 y5))) (iZ IntKind.u32 y1.2.1 (kT IntKind.u32 (u8 y6))),(y4.1.2.2.1,()))),())):((zD×Unit))⊕((Nat×zD×Unit))))
 (some (Sum.inl ((y4.1.1,(cL IntKind.u32 (aD IntKind.u32 (iZ IntKind.u32 y4.1.2.1 (16777619:Int)) (kT IntKind.u32 (u8 y5))) (iZ IntKind.u32 y1.2.1 (kT IntKind.u32 (u8 y6))),(cL IntKind.i64 y4.1.2.2.1 (1:Int),()))),()):((zD×Unit))⊕((Nat×zD×Unit))))))))
 (some (Sum.inr ((0:Nat),((y4.1.1,(y4.1.2.1,(y4.1.2.2.1,()))),())):((zD×Unit))⊕((Nat×zD×Unit))))
def ek(x:Sb×Sb×Unit):Option (Int×Unit) :=
 aa (gd (x.2.1,())) (fun(y1:Int×Int×Unit)=>aa (Loop (iL x) (((0:Int),(cL IntKind.i64 (@len UInt8 x.1) (1:Int),())),())) (fun(y2:sX×Unit)=>aa (aq (bI y2.1.1 y1.1)
 (aq (inside (cL IntKind.i64 (@len UInt8 x.1) (@len UInt8 x.2.1)) (@len UInt8 x.1) (@len UInt8 x.1))
 (some (bX (@sub UInt8 x.1 (cL IntKind.i64 (@len UInt8 x.1) (@len UInt8 x.2.1)) (minus (@len UInt8 x.1) (cL IntKind.i64 (@len UInt8 x.1) (@len UInt8 x.2.1)))) x.2.1))
 none)
 (some false)) (fun(y3:Bool)=>aq y3
 (some (cL IntKind.i64 (@len UInt8 x.1) (@len UInt8 x.2.1),()))
 (aa (Loop (iM x y1) (((0:Int),(y2.1.1,(cL IntKind.i64 (cL IntKind.i64 (@len UInt8 x.1) (@len UInt8 x.2.1)) (1:Int),()))),())) (fun(y4:Nat×zD×Unit)=>aq (eY y4.1 (0:Nat))
 (some ((-1:Int),()))
 (some (y4.2.1.1,())))))))
def tQ(x:Sb×Sb×Unit):Option (Int×Unit) :=
 aq (bI (@len UInt8 x.2.1) (0:Int))
 (some (@len UInt8 x.1,()))
 (aq (bI (@len UInt8 x.2.1) (1:Int))
 (aa (@idx UInt8 x.2.1 (0:Int)) (fun(y1:UInt8)=>aa (fE (x.1,(u8 y1,()))) (fun(y2:Int×Unit)=>some (y2.1,()))))
 (aq (bI (@len UInt8 x.2.1) (@len UInt8 x.1))
 (aq (bX x.2.1 x.1)
 (some ((0:Int),()))
 (some ((-1:Int),())))
 (aq (aX (@len UInt8 x.1) (@len UInt8 x.2.1))
 (some ((-1:Int),()))
 (aa (ek (x.1,(x.2.1,()))) (fun(y1:Int×Unit)=>some (y1.1,()))))))
def jf(x:Sb×Unit):Option (Sb×Sb×Unit) :=
 aa (tQ (x.1,(([(47:UInt8)]:List (UInt8)),()))) (fun(y1:Int×Unit)=>aq (aX y1.1 (0:Int))
 (some (([]:List (UInt8)),(x.1,())))
 (aq (inside (0:Int) y1.1 (@len UInt8 x.1))
 (aq (inside (aD IntKind.i64 y1.1 (1:Int)) (@len UInt8 x.1) (@len UInt8 x.1))
 (some (@sub UInt8 x.1 (0:Int) (minus y1.1 (0:Int)),(@sub UInt8 x.1 (aD IntKind.i64 y1.1 (1:Int)) (minus (@len UInt8 x.1) (aD IntKind.i64 y1.1 (1:Int))),())))
 none)
 none))
def qp(x:(List Sb)×(List Sb)×Unit)(y1:yK×Unit):Option ((yK×Unit)⊕uz) :=
 aq (aX y1.1.2.1 (@len Sb x.1))
 (aa (@idx Sb x.1 y1.1.2.1) (fun(y2:List (UInt8))=>aa (@idx Sb x.2.1 y1.1.2.1) (fun(y3:List (UInt8))=>aq (nt (bX y2 y3))
 (some (Sum.inr ((1:Nat),((false,(y1.1.2.1,())),())):AY⊕(uz)))
 (some (Sum.inl ((y1.1.1,(aD IntKind.i64 y1.1.2.1 (1:Int),())),()):AY⊕(uz))))))
 (some (Sum.inr ((0:Nat),((y1.1.1,(y1.1.2.1,())),())):AY⊕(uz)))
def kE(x:(List Sb)×(List Sb)×Unit):Option (Bool×Unit) :=
 aq (nt (bI (@len Sb x.1) (@len Sb x.2.1)))
 (some (false,()))
 (aa (Loop (qp x) ((false,((0:Int),())),())) (fun(y1:Nat×yK×Unit)=>aq (eY y1.1 (0:Nat))
 (some (true,()))
 (some (y1.2.1.1,()))))
def eC(x:Sb×Sb×Unit):Option (Bool×Unit) :=
 aa (gA (x.1,())) (fun(y1:(List Sb)×Unit)=>aa (gA (x.2.1,())) (fun(y2:(List Sb)×Unit)=>aa (aq (aX (@len Sb y2.1) (@len Sb y1.1))
 (aq (inside (0:Int) (@len Sb y2.1) (@len Sb y1.1))
 (aa (kE (@sub Sb y1.1 (0:Int) (minus (@len Sb y2.1) (0:Int)),(y2.1,()))) (fun(y3:Bool×Unit)=>some y3.1))
 none)
 (some false)) (fun(y3:Bool)=>some (y3,()))))
def oz(x:Sb×Unit):Option (Bool×Unit) :=
 some (nt (bX x.1 x.1),())
def sB(x:Sb×Sb×Unit):Option (Int×Unit) :=
 aa (oz (x.1,())) (fun(y1:Bool×Unit)=>aa (oz (x.2.1,())) (fun(y2:Bool×Unit)=>aq y1.1
 (aq y2.1
 (some ((0:Int),()))
 (some ((-1:Int),())))
 (aq y2.1
 (some ((1:Int),()))
 (aq (ql x.1 x.2.1)
 (some ((-1:Int),()))
 (aq (nt (oor (ql x.1 x.2.1) (bX x.1 x.2.1)))
 (some ((1:Int),()))
 (some ((0:Int),())))))))
def Em(y1:(List Sb)×Unit)(y2:(List Sb)×Unit)(y3:sX×Unit):Option ((sX×Unit)⊕vW) :=
 aq (aX y3.1.2.1 (@len Sb y1.1))
 (aa (@idx Sb y1.1 y3.1.2.1) (fun(y4:List (UInt8))=>aq (cK (@len Sb y2.1) y3.1.2.1)
 (some (Sum.inr ((1:Nat),(((1:Int),(y3.1.2.1,())),())):AZ⊕(vW)))
 (aa (@idx Sb y2.1 y3.1.2.1) (fun(y5:List (UInt8))=>aa (sB (y4,(y5,()))) (fun(y6:Int×Unit)=>aq (nt (bI y6.1 (0:Int)))
 (some (Sum.inr ((1:Nat),((y6.1,(y3.1.2.1,())),())):AZ⊕(vW)))
 (some (Sum.inl ((y3.1.1,(aD IntKind.i64 y3.1.2.1 (1:Int),())),()):AZ⊕(vW))))))))
 (some (Sum.inr ((0:Nat),((y3.1.1,(y3.1.2.1,())),())):AZ⊕(vW)))
def sY(x:Sb×Sb×Unit):Option (Int×Unit) :=
 aa (gA (x.1,())) (fun(y1:(List Sb)×Unit)=>aa (gA (x.2.1,())) (fun(y2:(List Sb)×Unit)=>aa (Loop (Em y1 y2) (((0:Int),((0:Int),())),())) (fun(y3:Nat×sX×Unit)=>aq (eY y3.1 (0:Nat))
 (aq (aX (@len Sb y1.1) (@len Sb y2.1))
 (some ((-1:Int),()))
 (some ((0:Int),())))
 (some (y3.2.1.1,())))))
def HE(x:Sb×Unit)(y1:(Unit×Sb×Int×Unit)×(List Sb)×Unit):Option (aaL⊕aaL) :=
 @cM aaL (aq (aX y1.1.2.2.1 (@len UInt8 x.1))
 (aa (@idx UInt8 x.1 y1.1.2.2.1) (fun(y2:UInt8)=>aa (aq (bI (u8 y2) (47:Int))
 (aq (fits (plus (@len Sb y1.2.1) (@len Sb ([y1.1.2.1]:List Sb))))
 (some (((),(([]:List (UInt8)),())),(@app Sb y1.2.1 ([y1.1.2.1]:List Sb),())))
 none)
 (aq (inside y1.1.2.2.1 (aD IntKind.i64 y1.1.2.2.1 (1:Int)) (@len UInt8 x.1))
 (aq (fits (plus (@len UInt8 y1.1.2.1) (@len UInt8 (@sub UInt8 x.1 y1.1.2.2.1 (minus (aD IntKind.i64 y1.1.2.2.1 (1:Int)) y1.1.2.2.1)))))
 (some (((),(@app UInt8 y1.1.2.1 (@sub UInt8 x.1 y1.1.2.2.1 (minus (aD IntKind.i64 y1.1.2.2.1 (1:Int)) y1.1.2.2.1)),())),(y1.2.1,())))
 none)
 none)) (fun(y3:(Unit×Sb×Unit)×(List Sb)×Unit)=>some (Sum.inl (((),(y3.1.2.1,(aD IntKind.i64 y1.1.2.2.1 (1:Int),()))),(y3.2.1,())):(aaL)⊕((Nat×(Unit×Sb×Int×Unit)×(List Sb)×Unit))))))
 (some (Sum.inr ((0:Nat),(((),(y1.1.2.1,(y1.1.2.2.1,()))),(y1.2.1,()))):(aaL)⊕((Nat×(Unit×Sb×Int×Unit)×(List Sb)×Unit)))))
def eD(x:Sb×Unit):Option ((List Sb)×Unit) :=
 aq (bX x.1 ([]:List (UInt8)))
 (some (([]:List Sb),()))
 (aa (Loop (HE x) (((),(([]:List (UInt8)),((0:Int),()))),(([]:List Sb),()))) (fun(y1:(Unit×Sb×Int×Unit)×(List Sb)×Unit)=>aq (fits (plus (@len Sb y1.2.1) (@len Sb ([y1.1.2.1]:List Sb))))
 (some (@app Sb y1.2.1 ([y1.1.2.1]:List Sb),()))
 none))
def J3(x:(List Sb)×Unit)(y1:Bw×Unit):Option ((Bw×Unit)⊕(Bw×Unit)) :=
 @cM (Bw×Unit) (aq (aX y1.1.2.1 (@len Sb x.1))
 (aa (aq (aX (0:Int) y1.1.2.1)
 (aq (fits (plus (@len UInt8 y1.1.1) (@len UInt8 ([(47:UInt8)]:List (UInt8)))))
 (some ((@app UInt8 y1.1.1 ([(47:UInt8)]:List (UInt8)),()),()))
 none)
 (some ((y1.1.1,()),()))) (fun(y2:(Sb×Unit)×Unit)=>aa (@idx Sb x.1 y1.1.2.1) (fun(y3:List (UInt8))=>aq (fits (plus (@len UInt8 y2.1.1) (@len UInt8 y3)))
 (some (Sum.inl ((@app UInt8 y2.1.1 y3,(aD IntKind.i64 y1.1.2.1 (1:Int),())),()):((Bw×Unit))⊕((Nat×Bw×Unit))))
 none)))
 (some (Sum.inr ((0:Nat),((y1.1.1,(y1.1.2.1,())),())):((Bw×Unit))⊕((Nat×Bw×Unit)))))
def zF(x:(List Sb)×Unit):Option (Sb×Unit) :=
 aa (Loop (J3 x) ((([]:List (UInt8)),((0:Int),())),())) (fun(y1:Bw×Unit)=>some (y1.1.1,()))
def FH(x:Sb×Unit)(y1:yK×Unit):Option ((yK×Unit)⊕uz) :=
 aq (aX y1.1.2.1 (@len UInt8 x.1))
 (aa (@idx UInt8 x.1 y1.1.2.1) (fun(y2:UInt8)=>aa (aq (nt (bI (u8 y2) (0:Int)))
 (aa (@idx UInt8 x.1 y1.1.2.1) (fun(y3:UInt8)=>some (bI (u8 y3) (47:Int))))
 (some true)) (fun(y3:Bool)=>aq y3
 (some (Sum.inr ((1:Nat),((false,(y1.1.2.1,())),())):AY⊕(uz)))
 (some (Sum.inl ((y1.1.1,(aD IntKind.i64 y1.1.2.1 (1:Int),())),()):AY⊕(uz))))))
 (some (Sum.inr ((0:Nat),((y1.1.1,(y1.1.2.1,())),())):AY⊕(uz)))
def Bz(x:Sb×Unit):Option (Bool×Unit) :=
 aa (Loop (FH x) ((false,((0:Int),())),())) (fun(y1:Nat×yK×Unit)=>aq (eY y1.1 (0:Nat))
 (some (aq (aq (aq (cK (1:Int) (@len UInt8 x.1))
 (cK (@len UInt8 x.1) (32:Int))
 false)
 (nt (bX x.1 ([(46:UInt8)]:List (UInt8))))
 false)
 (nt (bX x.1 ([(46:UInt8),(46:UInt8)]:List (UInt8))))
 false,()))
 (some (y1.2.1.1,())))
def Od(y1:(List Sb)×Unit)(y2:yK×Unit):Option ((yK×Unit)⊕uz) :=
 aq (aX y2.1.2.1 (@len Sb y1.1))
 (aa (@idx Sb y1.1 y2.1.2.1) (fun(y3:List (UInt8))=>aa (Bz (y3,())) (fun(y4:Bool×Unit)=>aq (nt y4.1)
 (some (Sum.inr ((1:Nat),((false,(y2.1.2.1,())),())):AY⊕(uz)))
 (some (Sum.inl ((y2.1.1,(aD IntKind.i64 y2.1.2.1 (1:Int),())),()):AY⊕(uz))))))
 (some (Sum.inr ((0:Nat),((y2.1.1,(y2.1.2.1,())),())):AY⊕(uz)))
def En(x:Sb×Unit):Option (Bool×Unit) :=
 aa (eD (x.1,())) (fun(y1:(List Sb)×Unit)=>aa (Loop (Od y1) ((false,((0:Int),())),())) (fun(y2:Nat×yK×Unit)=>aq (eY y2.1 (0:Nat))
 (some (aq (cK (@len Sb y1.1) (8:Int))
 (cK (@len UInt8 x.1) (96:Int))
 false,()))
 (some (y2.2.1.1,()))))
def HF(y1:(List Sb)×Unit)(y2:(Unit×Int×Unit)×(List Sb)×Unit):Option (aaM⊕aaM) :=
 @cM aaM (aq (aX y2.1.2.1 (@len Sb y1.1))
 (aa (@idx Sb y1.1 y2.1.2.1) (fun(y3:List (UInt8))=>aa (aq (nt (bX y3 ([]:List (UInt8))))
 (aa (@idx Sb y1.1 y2.1.2.1) (fun(y4:List (UInt8))=>some (nt (bX y4 ([(46:UInt8)]:List (UInt8))))))
 (some false)) (fun(y4:Bool)=>aa (aq y4
 (aa (@idx Sb y1.1 y2.1.2.1) (fun(y5:List (UInt8))=>aq (fits (plus (@len Sb y2.2.1) (@len Sb ([y5]:List Sb))))
 (some (((),()),(@app Sb y2.2.1 ([y5]:List Sb),())))
 none))
 (some (((),()),(y2.2.1,())))) (fun(y5:(Unit×Unit)×(List Sb)×Unit)=>some (Sum.inl (((),(aD IntKind.i64 y2.1.2.1 (1:Int),())),(y5.2.1,())):(aaM)⊕((Nat×(Unit×Int×Unit)×(List Sb)×Unit)))))))
 (some (Sum.inr ((0:Nat),(((),(y2.1.2.1,())),(y2.2.1,()))):(aaM)⊕((Nat×(Unit×Int×Unit)×(List Sb)×Unit)))))
def Da(x:Sb×Unit):Option Bw :=
 aa (eD (x.1,())) (fun(y1:(List Sb)×Unit)=>aa (Loop (HF y1) (((),((0:Int),())),(([]:List Sb),()))) (fun(y2:(Unit×Int×Unit)×(List Sb)×Unit)=>aa (zF (y2.2.1,())) (fun(y3:Sb×Unit)=>aa (aq (nt (bX x.1 ([]:List (UInt8))))
 (aa (@idx UInt8 x.1 (0:Int)) (fun(y4:UInt8)=>some (bI (u8 y4) (47:Int))))
 (some false)) (fun(y4:Bool)=>aa (aq (nt y4)
 (aa (En (y3.1,())) (fun(y5:Bool×Unit)=>some (nt y5.1)))
 (some true)) (fun(y5:Bool)=>aq y5
 (some (([]:List (UInt8)),((2:Int),())))
 (some (y3.1,((0:Int),()))))))))
def vw(x:Sb×Sb×Unit):Option (Bool×Unit) :=
 aa (aq (cK (@len UInt8 x.2.1) (@len UInt8 x.1))
 (aq (inside (0:Int) (@len UInt8 x.2.1) (@len UInt8 x.1))
 (some (bX (@sub UInt8 x.1 (0:Int) (minus (@len UInt8 x.2.1) (0:Int))) x.2.1))
 none)
 (some false)) (fun(y1:Bool)=>some (y1,()))
def zG(x:Sb×Unit):Option (Int×Sb×Unit) :=
 aq (bX x.1 ([(46:UInt8),(119:UInt8),(104:UInt8),(46:UInt8),(46:UInt8),(119:UInt8),(104:UInt8),(46:UInt8),(46:UInt8),(111:UInt8),(112:UInt8),(113:UInt8)]:List (UInt8)))
 (some ((2:Int),(([]:List (UInt8)),())))
 (aa (vw (x.1,(([(46:UInt8),(119:UInt8),(104:UInt8),(46:UInt8),(46:UInt8),(119:UInt8),(104:UInt8),(46:UInt8)]:List (UInt8)),()))) (fun(y1:Bool×Unit)=>aq (aq (nt (aq (nt (aq (nt y1.1)
 (bX x.1 ([(46:UInt8),(119:UInt8),(104:UInt8),(46:UInt8)]:List (UInt8)))
 true))
 (bX x.1 ([(46:UInt8),(119:UInt8),(104:UInt8),(46:UInt8),(46:UInt8)]:List (UInt8)))
 true))
 (bX x.1 ([(46:UInt8),(119:UInt8),(104:UInt8),(46:UInt8),(46:UInt8),(46:UInt8)]:List (UInt8)))
 true)
 (some ((3:Int),(([]:List (UInt8)),())))
 (aa (vw (x.1,(([(46:UInt8),(119:UInt8),(104:UInt8),(46:UInt8)]:List (UInt8)),()))) (fun(y2:Bool×Unit)=>aq y2.1
 (aq (inside (4:Int) (@len UInt8 x.1) (@len UInt8 x.1))
 (some ((1:Int),(@sub UInt8 x.1 (4:Int) (minus (@len UInt8 x.1) (4:Int)),())))
 none)
 (some ((0:Int),(x.1,())))))))
def nB(x:Sb×Unit):Option (Sb×Sb×Unit) :=
 aa (eD (x.1,())) (fun(y1:(List Sb)×Unit)=>aq (bI (@len Sb y1.1) (0:Int))
 (some (([]:List (UInt8)),(([]:List (UInt8)),())))
 (aq (inside (0:Int) (cL IntKind.i64 (@len Sb y1.1) (1:Int)) (@len Sb y1.1))
 (aa (zF (@sub Sb y1.1 (0:Int) (minus (cL IntKind.i64 (@len Sb y1.1) (1:Int)) (0:Int)),())) (fun(y2:Sb×Unit)=>aa (@idx Sb y1.1 (cL IntKind.i64 (@len Sb y1.1) (1:Int))) (fun(y3:List (UInt8))=>some (y2.1,(y3,())))))
 none))
def iN(x:(List Sb)×(List Sb)×Unit)(y1:yK×Unit):Option ((yK×Unit)⊕uz) :=
 aq (aq (aX y1.1.2.1 (@len Sb x.1))
 (aX y1.1.2.1 (@len Sb x.2.1))
 false)
 (aa (@idx Sb x.1 y1.1.2.1) (fun(y2:List (UInt8))=>aa (@idx Sb x.2.1 y1.1.2.1) (fun(y3:List (UInt8))=>aq (nt (bX y2 y3))
 (some (Sum.inr ((1:Nat),((false,(y1.1.2.1,())),())):AY⊕(uz)))
 (some (Sum.inl ((y1.1.1,(aD IntKind.i64 y1.1.2.1 (1:Int),())),()):AY⊕(uz))))))
 (some (Sum.inr ((0:Nat),((y1.1.1,(y1.1.2.1,())),())):AY⊕(uz)))
def dL(x:(List Sb)×(List Sb)×Unit):Option (Bool×Unit) :=
 aq (nt (bI (@len Sb x.1) (@len Sb x.2.1)))
 (some (false,()))
 (aa (Loop (iN x) ((false,((0:Int),())),())) (fun(y1:Nat×yK×Unit)=>aq (eY y1.1 (0:Nat))
 (some (true,()))
 (some (y1.2.1.1,()))))
def uA(x:Sb×Sb×Unit):Option (Sb×Unit) :=
 aq (aq (nt (bX x.1 ([]:List (UInt8))))
 (bX x.2.1 ([]:List (UInt8)))
 true)
 (aq (fits (plus (@len UInt8 x.1) (@len UInt8 x.2.1)))
 (some (@app UInt8 x.1 x.2.1,()))
 none)
 (aq (fits (plus (@len UInt8 x.1) (@len UInt8 ([(47:UInt8)]:List (UInt8)))))
 (aq (fits (plus (@len UInt8 (@app UInt8 x.1 ([(47:UInt8)]:List (UInt8)))) (@len UInt8 x.2.1)))
 (some (@app UInt8 (@app UInt8 x.1 ([(47:UInt8)]:List (UInt8))) x.2.1,()))
 none)
 none)
def uB(x:Sb×Sb×Unit):Option (Sb×Unit) :=
 aq (bX x.1 ([]:List (UInt8)))
 (some (x.2.1,()))
 (aq (bX x.2.1 ([]:List (UInt8)))
 (some (x.1,()))
 (aq (fits (plus (@len UInt8 x.1) (@len UInt8 ([(47:UInt8)]:List (UInt8)))))
 (aq (fits (plus (@len UInt8 (@app UInt8 x.1 ([(47:UInt8)]:List (UInt8)))) (@len UInt8 x.2.1)))
 (some (@app UInt8 (@app UInt8 x.1 ([(47:UInt8)]:List (UInt8))) x.2.1,()))
 none)
 none))
def HG(y1:(List Sb)×Unit)(y2:(List Sb)×Unit)(y3:yK×Unit):Option ((yK×Unit)⊕uz) :=
 aq (aq (aX y3.1.2.1 (@len Sb y2.1))
 (aX y3.1.2.1 (@len Sb y1.1))
 false)
 (aa (@idx Sb y1.1 y3.1.2.1) (fun(y4:List (UInt8))=>aa (@idx Sb y2.1 y3.1.2.1) (fun(y5:List (UInt8))=>aq (nt (bX y4 y5))
 (some (Sum.inr ((1:Nat),((false,(y3.1.2.1,())),())):AY⊕(uz)))
 (some (Sum.inl ((y3.1.1,(aD IntKind.i64 y3.1.2.1 (1:Int),())),()):AY⊕(uz))))))
 (some (Sum.inr ((0:Nat),((y3.1.1,(y3.1.2.1,())),())):AY⊕(uz)))
def Db(x:Sb×Sb×Unit):Option (Bool×Unit) :=
 aa (eD (x.1,())) (fun(y1:(List Sb)×Unit)=>aa (eD (x.2.1,())) (fun(y2:(List Sb)×Unit)=>aq (cK (@len Sb y1.1) (@len Sb y2.1))
 (some (false,()))
 (aa (Loop (HG y1 y2) ((false,((0:Int),())),())) (fun(y3:Nat×yK×Unit)=>aq (eY y3.1 (0:Nat))
 (some (true,()))
 (some (y3.2.1.1,()))))))
def Eo(y1:(List Sb)×Unit)(y2:(List Sb)×Unit)(y3:sX×Unit):Option ((sX×Unit)⊕vW) :=
 aq (aq (aX y3.1.2.1 (@len Sb y1.1))
 (aX y3.1.2.1 (@len Sb y2.1))
 false)
 (aa (@idx Sb y1.1 y3.1.2.1) (fun(y4:List (UInt8))=>aa (@idx Sb y2.1 y3.1.2.1) (fun(y5:List (UInt8))=>aq (ql y4 y5)
 (some (Sum.inr ((1:Nat),(((-1:Int),(y3.1.2.1,())),())):AZ⊕(vW)))
 (aa (@idx Sb y1.1 y3.1.2.1) (fun(y6:List (UInt8))=>aa (@idx Sb y2.1 y3.1.2.1) (fun(y7:List (UInt8))=>aq (nt (oor (ql y6 y7) (bX y6 y7)))
 (some (Sum.inr ((1:Nat),(((1:Int),(y3.1.2.1,())),())):AZ⊕(vW)))
 (some (Sum.inl ((y3.1.1,(aD IntKind.i64 y3.1.2.1 (1:Int),())),()):AZ⊕(vW)))))))))
 (some (Sum.inr ((0:Nat),((y3.1.1,(y3.1.2.1,())),())):AZ⊕(vW)))
def sZ(x:Sb×Sb×Unit):Option (Int×Unit) :=
 aa (eD (x.1,())) (fun(y1:(List Sb)×Unit)=>aa (eD (x.2.1,())) (fun(y2:(List Sb)×Unit)=>aa (Loop (Eo y1 y2) (((0:Int),((0:Int),())),())) (fun(y3:Nat×sX×Unit)=>aq (eY y3.1 (0:Nat))
 (aq (aX (@len Sb y1.1) (@len Sb y2.1))
 (some ((-1:Int),()))
 (aq (aX (@len Sb y2.1) (@len Sb y1.1))
 (some ((1:Int),()))
 (some ((0:Int),()))))
 (some (y3.2.1.1,())))))
end Go.Ge
namespace Go.Ge
variable [Lp]
set_option maxRecDepth 100000
abbrev Dc:=(Int×Bool×Int×Int×Unit)
def BA(x:Sb×Unit)(y1:Dc×Unit):Option ((Dc×Unit)⊕(Nat×Dc×Unit)) :=
 aq (aX y1.1.2.2.2.1 (@len UInt8 x.1))
 (aa (@idx UInt8 x.1 y1.1.2.2.2.1) (fun(y2:UInt8)=>aa (aq (nt (aX (u8 y2) (48:Int)))
 (aa (@idx UInt8 x.1 y1.1.2.2.2.1) (fun(y3:UInt8)=>some (aX (55:Int) (u8 y3))))
 (some true)) (fun(y3:Bool)=>aq (aq (nt y3)
 (aX (1152921504606846975:Int) y1.1.2.2.1)
 true)
 (some (Sum.inr ((1:Nat),(((0:Int),(false,(y1.1.2.2.1,(y1.1.2.2.2.1,())))),())):((Dc×Unit))⊕((Nat×Dc×Unit))))
 (aa (@idx UInt8 x.1 y1.1.2.2.2.1) (fun(y4:UInt8)=>some (Sum.inl ((y1.1.1,(y1.1.2.1,(aD IntKind.i64 (iZ IntKind.i64 (8:Int) y1.1.2.2.1) (kT IntKind.i64 (cL IntKind.u8 (u8 y4) (48:Int))),(aD IntKind.i64 y1.1.2.2.2.1 (1:Int),())))),()):((Dc×Unit))⊕((Nat×Dc×Unit))))))))
 (some (Sum.inr ((0:Nat),((y1.1.1,(y1.1.2.1,(y1.1.2.2.1,(y1.1.2.2.2.1,())))),())):((Dc×Unit))⊕((Nat×Dc×Unit))))
def wD(x:Sb×Unit):Option (Int×Bool×Unit) :=
 aq (aq (nt (aX (@len UInt8 x.1) (1:Int)))
 (aX (21:Int) (@len UInt8 x.1))
 true)
 (some ((0:Int),(false,())))
 (aa (Loop (BA x) (((0:Int),(false,((0:Int),((0:Int),())))),())) (fun(y1:Nat×Dc×Unit)=>aq (eY y1.1 (0:Nat))
 (some (y1.2.1.2.2.1,(true,())))
 (some (y1.2.1.1,(y1.2.1.2.1,())))))
end Go.Ge
