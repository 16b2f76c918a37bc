/- Plain laws of what the functions compute: part 4. -/
import Derived.Test.YtpmecibilnjeiaaGreatDoorPlC
set_option linter.unusedSectionVars false
set_option linter.unusedVariables false
set_option linter.unusedSimpArgs false
open Go.IntKind (i64)
namespace Go.Ge
variable [Lp]
theorem aax:∀(n:Nat) (part all:ao) (st:Co),part.length<=n->Inv st all->all.length+part.length<1152921504606846976 ->
  ∃a,Loop fq ((part,()),st,())=some (([],()),a,())/\Inv a (all++part):=by
 intro n;induction n with
 | zero =>
   intro part all st h b c;obtain rfl:part=[]:=Qi (by omega);refine⟨st,?_,by rw[y9];exact b⟩;rw[aI];have:fq (([],()),st,())=some (.inr (([],()),st,())):=by
    unfold fq;dsimp only;rw[show nt (bw [] [])=false from rfl,af,dJ]
   rw[this];rfl
 | succ n f =>
   intro part all st h b c;by_cases d:part=[]
   .subst d;exact f [] all st (by simp) b c
   .obtain⟨e,i,j⟩:=aaw part all st d b c;have k:all.length % 64<64:=wM _ (by decide);have l:0<part.length:=by cases part with|nil=>exact absurd rfl d|cons=>simp
    obtain⟨a,m,g⟩:=f (part.drop<|64-all.length % 64) _ e (by rw[j8];omega) j (by rw[gI,fT,j8];omega);refine⟨a,?_,by rw[kP,vV] at g;exact g⟩;rw[aI,i];exact m
theorem Ia(a b:ao)(d:Co)(e:Inv d b)(f:b.length+a.length<1152921504606846976):∃c,fE ((a,()),d,())=some ((),c,())/\Inv c (b++a):=by
 obtain⟨c,g,h⟩:=aax a.length a b d (bZ _) e f;refine⟨c,?_,h⟩;unfold fE;dsimp only;rw[g,aa]
def zs(n:Nat):Nat:=(119-n % 64) % 64
def dC(n k:Nat):Int:=ka .u8 (pd .u64 (ik .u64 (ka .u64 (n:Int)) 8) ((8*k:Nat):Int))
def Fs(n:Nat):List Int:=[dC n 7,dC n 6,dC n 5,dC n 4,dC n 3,dC n 2,dC n 1,dC n 0]
def pad(s:ao):ao:=s++[128]++List.replicate (zs s.length) 0++aY (Fs s.length)
theorem Cp(s:ao):(pad s).length=s.length+1+zs s.length+8:=by simp[pad,aY,Fs];omega
theorem V8(s:ao):(pad s).length % 64=0:=by rw[Cp];unfold zs;omega
theorem lP(s:ao):aY (av s)=s:=by
 unfold aY av;rw[M0]
 conv=>rhs;rw[<-List.map_id s]
 apply Il;intro x _;simp
theorem wk(a b:List Int):aY (a++b)=aY a++aY b:=by simp[aY]
theorem RU(s:ao)(c:s.length<=1048576):Loop kh (((),()),av s++[128],())=some (((),()),av s++[128]++fL (zs s.length),()):=by
 have d:zs s.length<64:=wM _ (by decide);have:=cP (f:=kh) (r:=(((),()),av s++[128]++fL (zs s.length),())) (zs s.length) (λj=>(((),()),av s++[128]++fL j,())) (λj a=>by
  unfold kh;dsimp only;have el:len (av s++[128]++fL j)=((s.length+1+j:Nat):Int):=by unfold len;simp[av,fL];omega
  rw[aN<|by decide,af,el,show((64:Int))=((64:Nat):Int) from rfl,sI,aN (by unfold zs at a;omega),show nt false=true from rfl,ab,de (by simp only[plus,len,Oi];omega),ab,cR]
  congr 4
  show av s++[128]++fL j++[0]=_
  rw[kP,show fL j++[0]=fL (j+1) from by simp[fL,List.replicate_succ']])
  (by
   unfold kh;dsimp only;have el:len (av s++[128]++fL (zs s.length))=((s.length+1+zs s.length:Nat):Int):=by unfold len;simp[av,fL];omega
   rw[aN<|by decide,af,el,show((64:Int))=((64:Nat):Int) from rfl,sI,aT (by unfold zs;omega),show nt true=false from rfl,af,dJ])
 have b:av s++[128]++fL 0=av s++[128]:=by simp[fL]
 simp only[b] at this;exact this
theorem XD(s:ao)(b:List Int)(p:s.length<=1048576)(q:b.length<=2097152)(u:ah):Loop (dT (s,u)) (((),7,()),b,())=some (((),-1,()),b++Fs s.length,()):=by
 have step:∀(k:Nat) (c:List Int),k<=7->c.length<=2097160->dT (s,u) (((),(k:Int),()),c,())=some (.inl (((),(k:Int)-1,()),c++[dC s.length k],())):=by
  intro k c d e;unfold dT;dsimp only;have f:ik .i64 8 (k:Int)=((8*k:Nat):Int):=by rw[zJ (by omega)<|by omega];omega
  rw[dc<|by omega,ab,f,aA (by omega),af,de (by simp only[plus,len,Oi];omega),ab,dx (by omega) (by omega),cR];rfl
 have a:∀c:List Int,dT (s,u) (((),(-1:Int),()),c,())=some (.inr (((),-1,()),c,())):=by
  intro c;unfold dT;dsimp only;rw[fu<|by decide,af,dJ]
 have L:∀(k:Nat) (c:List Int),k<=7->c.length<=2097160->Loop (dT (s,u)) (((),(k:Int),()),c,())=Loop (dT (s,u)) (((),(k:Int)-1,()),c++[dC s.length k],()):=by
  intro k c d e;rw[aI,step k c d e];rfl
 have g:=L 7 b (by omega) (by omega);have h:=L 6 (b++[dC s.length 7]) (by omega) (by simp;omega);have i:=L 5 (b++[dC s.length 7]++[dC s.length 6]) (by omega) (by simp;omega);have j:=L 4 (b++[dC s.length 7]++[dC s.length 6]++[dC s.length 5]) (by omega) (by simp;omega);have l:=L 3 (b++[dC s.length 7]++[dC s.length 6]++[dC s.length 5]++[dC s.length 4]) (by omega) (by simp;omega);have m:=L 2 (b++[dC s.length 7]++[dC s.length 6]++[dC s.length 5]++[dC s.length 4]++[dC s.length 3]) (by omega) (by simp;omega);have n:=L 1 (b++[dC s.length 7]++[dC s.length 6]++[dC s.length 5]++[dC s.length 4]++[dC s.length 3]++[dC s.length 2]) (by omega) (by simp;omega);have o:=L 0 (b++[dC s.length 7]++[dC s.length 6]++[dC s.length 5]++[dC s.length 4]++[dC s.length 3]++[dC s.length 2]++[dC s.length 1]) (by omega) (by simp;omega);refine g.trans (h.trans<|i.trans<|j.trans<|l.trans<|m.trans<|n.trans<|o.trans ?_);have:b++[dC s.length 7]++[dC s.length 6]++[dC s.length 5]++[dC s.length 4]++[dC s.length 3]++[dC s.length 2]++[dC s.length 1]++[dC s.length 0]=b++Fs s.length:=by simp[Fs]
 rw[this];show Loop (dT (s,u)) (((),-1,()),b++Fs s.length,())=_
 rw[aI,a];rfl
theorem XE(s:ao)(a:s.length<=1048576):rH (s,())=some (pad s,()):=by
 have b:zs s.length<64:=wM _ (by decide);unfold rH;dsimp only;rw[de<|by unfold len;omega,ab,de (by simp only[plus,len,Oi,fS];omega),ab,show app (av s) ([128]:List Int)=av s++[128] from rfl,RU s a,aa];dsimp only;rw[XD s _ a<|by simp[fS,fL];omega,aa];dsimp only;rw[wk,wk,wk,lP];unfold pad;have:aY (fL<|zs s.length)=List.replicate (zs s.length) 0:=by unfold aY fL;rw[List.map_replicate];rfl
 rw[this];rfl
theorem Uv(t:ao)(c:t.length % 64=0)(d:t.length<=2097152)(u:ah):Loop (mU (t,u)) ((0,()),H0,())=some (((t.length:Int),()),xD t<|t.length / 64,()):=by
 have:=cP (f:=mU (t,u)) (r:=(((t.length:Int),()),xD t<|t.length / 64,())) (t.length / 64) (λj=>((((64*j:Nat):Int),()),xD t j,())) (λj e=>by
  unfold mU;dsimp only;have a:64*j+64<=t.length:=by omega
  rw[fk (by omega)<|by omega,dc (by unfold len;omega),ab,aP (by omega) (by omega) (by unfold len;omega),ab];have b:sub t ((64*j:Nat):Int) (minus (((64*j:Nat):Int)+64) ((64*j:Nat):Int))=(t.drop<|64*j).take 64:=by
   unfold sub minus;rw[sQ,show(((64*j:Nat):Int)+64-((64*j:Nat):Int)).toNat=64 by omega]
  rw[b,XB _ (x7 t j) _ (by rw[fT,j8];omega),aa,cR];rw[show(((64*j:Nat):Int)+64)=((64*(j+1):Nat):Int) by omega];rfl)
  (by
   unfold mU;dsimp only;have a:64*(t.length / 64)=t.length:=by omega
   rw[a,fk (by omega) (by omega),fu (by unfold len;omega),af,dJ])
 exact this
def ahZ(h:List Int)(i:Nat):Int:=ka .u8 (pd .u32 (h.getD (i / 4) 0) ((24-8*(i % 4):Nat):Int))
def RV(h:List Int):Nat->List Int
 | 0=>fL 32
 | i+1=>(RV h i).set i (ahZ h i)
theorem zO(h:List Int)(i:Nat):(RV h i).length=32:=by
 induction i with
 | zero=>rfl
 | succ i a=>simp[RV,a]
theorem V9:([0,0,0,0,0,0,0,0,0,0,0,0,0,0,0,0,0,0,0,0,0,0,0,0,0,0,0,0,0,0,0,0]:List Int)=fL 32:=rfl
theorem aay{a:Nat}(h:a<4611686018427387904):GO .i64 (a:Int) 4=((a / 4:Nat):Int):=by
 have e:((a:Int).tdiv 4)=((a / 4:Nat):Int):=by rw[Int.tdiv_eq_ediv_of_nonneg<|by omega];exact(Int.natCast_ediv a 4).symm
 unfold GO;rw[e];have:=xZ (a:=((a / 4:Nat):Int)) (by omega) (by omega);unfold ka at this;exact this
theorem RW{h o:List Int}(a:h.length=8)(b:o.length=32)(i:Nat)(c:i<32):GO .i64 (i:Int) 4=((i / 4:Nat):Int)/\cd .i64 24 (ik .i64 8<|iR (i:Int) 4)=((24-8*(i % 4):Nat):Int):=by
 refine⟨aay<|by omega,?_⟩;rw[show(4:Int)=((4:Nat):Int) from rfl,sI,zJ (by omega) (by omega),dx (by omega) (by omega)];omega
theorem acg(h:List Int)(a:h.length=8)(q:Int×ah)(u:ah):Loop (mV (q,h,u)) ((0,()),fL 32,())=some (((32:Int),()),RV h 32,()):=by
 refine cP (f:=mV (q,h,u)) 32 (λi=>(((i:Int),()),RV h i,())) (λi b=>?_) ?_
 .have c:=zO h i;obtain⟨d,e⟩:=RW a c i b;unfold mV;dsimp only;rw[aJ<|by omega,ab,aN (by decide),af,d,aU (by omega) (by omega),ab,fl h 0 (by omega),aa,af,e,aA (by omega),af,aU (by omega) (by omega),ab,
   fl _ 0 (by omega),aa,aa,aa,cR,aK (by omega),gD]
  rfl
 .unfold mV;dsimp only;rw[aA<|by omega,af,dJ];rfl
theorem ach(h w:List Int)(j:h.length=8)(g:Bool)(n:Int)(a b c d e:ah)(r:ah):Loop (gA (r,((g,h,a),w,n,b),c)) ((0,()),fL 32,())=some (((32:Int),()),RV h 32,()):=by
 refine cP (f:=gA (r,((g,h,a),w,n,b),c)) 32 (λi=>(((i:Int),()),RV h i,())) (λi k=>?_) ?_
 .have l:=zO h i;obtain⟨m,o⟩:=RW j l i k;unfold gA;dsimp only;rw[aJ<|by omega,ab,aN (by decide),af,m,aU (by omega) (by omega),ab,fl h 0 (by omega),aa,af,o,aA (by omega),af,aU (by omega) (by omega),ab,
   fl _ 0 (by omega),aa,aa,aa,cR,aK (by omega),gD]
  rfl
 .unfold gA;dsimp only;rw[aA<|by omega,af,dJ];rfl
def YI(s:ao):List Int:=RV (xD (pad s)<|(pad s).length / 64) 32
theorem pr(s:ao):(YI s).length=32:=zO _ _
theorem Uw(s:ao)(a:s.length<=1048576):vv (s,())=some (YI s,()):=by
 have b:zs s.length<64:=wM _ (by decide);unfold vv;rw[LR,aa];dsimp only;rw[XE s a,aa,Uv _ (V8 s) (by rw[Cp];omega),aa,V9,acg _ (x7 _ _),aa];dsimp only[YI]
theorem XF(s:ao)(r:s.length<=1152921504606840000)(b:Co)(d:Inv b (s++[128])):∃a,Loop dZ ((),b,())=some ((),a,())/\Inv a (s++[128]++List.replicate (zs s.length) 0):=by
 have t:zs s.length<64:=wM _ (by decide);have key:∀(m j:Nat) (b:Co),j+m=zs s.length->Inv b (s++[128]++List.replicate j 0)->∃a,Loop dZ ((),b,())=some ((),a,())/\Inv a (s++[128]++List.replicate (zs s.length) 0):=by
  intro m;induction m with
  | zero =>
    intro j b g d;obtain rfl:j=zs s.length:=by omega
    refine⟨b,?_,d⟩;obtain⟨c,rfl,i,k⟩:=d;rw[aI];have:dZ ((),((decide<|64<=(s++[128]++List.replicate (zs s.length) 0).length,(if 64<=(s++[128]++List.replicate (zs s.length) 0).length then xD (s++[128]++List.replicate (zs s.length) 0) ((s++[128]++List.replicate (zs s.length) 0).length / 64) else fL 8),()),c,((s++[128]++List.replicate (zs s.length) 0).length:Int),()),())=some (.inr ((),((decide<|64<=(s++[128]++List.replicate (zs s.length) 0).length,(if 64<=(s++[128]++List.replicate (zs s.length) 0).length then xD (s++[128]++List.replicate (zs s.length) 0) ((s++[128]++List.replicate (zs s.length) 0).length / 64) else fL 8),()),c,((s++[128]++List.replicate (zs s.length) 0).length:Int),()),())):=by
     have l:(s++[128]++List.replicate (zs s.length) (0:UInt8)).length=s.length+1+zs s.length:=by simp;omega
     unfold dZ;dsimp only;rw[aN<|by decide,af,l,show((64:Int))=((64:Nat):Int) from rfl,sI,aT (by unfold zs;omega),show nt true=false from rfl,af,dJ]
    rw[this];rfl
  | succ m n =>
    intro j b g d;obtain⟨e,o,h⟩:=Ia [0] _ b d (by simp;omega);obtain⟨a,p,q⟩:=n (j+1) e (by omega) (by
     rw[kP,show List.replicate j (0:UInt8)++[0]=List.replicate (j+1) 0 from by rw[List.replicate_succ']] at h;exact h)
    refine⟨a,?_,q⟩;rw[aI];have f:b.2.2.1=((s.length+1+j:Nat):Int):=by
     obtain⟨c,rfl,i,k⟩:=d;simp;omega
    have:dZ ((),b,())=some (.inl ((),e,())):=by
     unfold dZ;dsimp only;rw[aN<|by decide,af,f,show((64:Int))=((64:Nat):Int) from rfl,sI,aN (by unfold zs at g;omega),show nt false=true from rfl,ab,o,aa,cR]
    rw[this];exact p
 exact key (zs s.length) 0 b (by omega) (by simpa using d)
theorem aaz(n:Nat)(j:n<=1152921504606840000)(b:Co)(a:b.2.2.1=(n:Int))(u v:ah):Loop (ft (u,b,v)) ((0,()),fL 8,())=some (((8:Int),()),Fs n,()):=by
 obtain⟨d,e,m,q⟩:=b;dsimp only at a;subst a;have step:∀(k:Nat) (c:List Int),k<8->c.length=8->ft (u,(d,e,(n:Int),q),v) (((k:Int),()),c,())=some (.inl ((((k+1:Nat):Int),()),c.set (7-k)<|dC n k,())):=by
  intro k c g l;unfold ft;dsimp only;have h:ik .i64 8 (k:Int)=((8*k:Nat):Int):=by rw[zJ (by omega)<|by omega];omega
  have i:cd .i64 7 (k:Int)=((7-k:Nat):Int):=by rw[dx (by omega)<|by omega];omega
  rw[aJ<|by omega,ab,h,aA (by omega),af,i,aU (by omega) (by omega),ab,fl c 0 (by omega),aa,aa,aa,cR,aK (by omega),gD];rfl
 have:=cP (f:=ft (u,(d,e,(n:Int),q),v)) (r:=(((8:Int),()),Fs n,())) 8 (λk=>(((k:Int),()),(match k with
  | 0=>fL 8
  | 1=>[0,0,0,0,0,0,0,dC n 0]
  | 2=>[0,0,0,0,0,0,dC n 1,dC n 0]
  | 3=>[0,0,0,0,0,dC n 2,dC n 1,dC n 0]
  | 4=>[0,0,0,0,dC n 3,dC n 2,dC n 1,dC n 0]
  | 5=>[0,0,0,dC n 4,dC n 3,dC n 2,dC n 1,dC n 0]
  | 6=>[0,0,dC n 5,dC n 4,dC n 3,dC n 2,dC n 1,dC n 0]
  | 7=>[0,dC n 6,dC n 5,dC n 4,dC n 3,dC n 2,dC n 1,dC n 0]
  | _=>Fs n:List Int),())) (λk g=>by
    rcases(by omega:k=0\/k=1\/k=2\/k=3\/k=4\/k=5\/k=6\/k=7) with rfl|rfl|rfl|rfl|rfl|rfl|rfl|rfl<;>exact(step _ _ (by omega) rfl).trans rfl)
  (by
   unfold ft;dsimp only;rw[aA<|by omega,af,dJ];rfl)
 exact this
theorem aci(s:ao)(p:s.length<=1048576)(a:Co)(i:Inv a s)(u v:ah):nL (u,a,v)=some ((YI s,()),a,()):=by
 have q:zs s.length<64:=wM _ (by decide);have c:a.2.2.1=(s.length:Int):=by obtain⟨b,rfl,_⟩:=i;rfl
 obtain⟨d,j,k⟩:=Ia [128] s a i (by simp;omega);obtain⟨e,l,m⟩:=XF s (by omega) d k;obtain⟨f,n,o⟩:=Ia (aY<|Fs s.length) _ e m (by simp[aY,Fs];omega);unfold nL;dsimp only;rw[V9,show aY ([128]:List Int)=[128] from rfl,j,aa];dsimp only;rw[l,aa];dsimp only;rw[show([0,0,0,0,0,0,0,0]:List Int)=fL 8 from rfl,aaz s.length (by omega) a c,aa,aP (by decide) (by decide) (by decide),ab];dsimp only;rw[show sub (Fs s.length) 0 (minus 8 0)=Fs s.length from rfl,n,aa];have g:Inv f (pad s):=o;obtain⟨b,rfl,r,t⟩:=g;have h:64<=(pad s).length:=by have:=V8 s;rw[Cp] at this⊢;omega
 simp only[h,CN,kQ];rw[ach _ _ (x7 _ _) _ _ () () () () () (),aa];dsimp only[YI]
theorem Ux(s:ao)(b:s.length<=1048576):AK (s,())=some (YI s,()):=by
 obtain⟨a,c,d⟩:=Ia s [] aau ahY (by simp;omega);unfold AK;dsimp only;rw[show((false,([0,0,0,0,0,0,0,0]:List Int),()),([0,0,0,0,0,0,0,0,0,0,0,0,0,0,0,0,0,0,0,0,0,0,0,0,0,0,0,0,0,0,0,0,0,0,0,0,0,0,0,0,0,0,0,0,0,0,0,0,0,0,0,0,0,0,0,0,0,0,0,0,0,0,0,0]:List Int),(0:Int),())=aau from rfl,c,aa];dsimp only;rw[aci s b a<|by simpa using d,aa]
abbrev ai7:=(Bool×ao×Int×ah)×Co×Co×ah
def LS:ao:=[48,49,50,51,52,53,54,55,56,57,97,98,99,100,101,102]
def hx(n:Nat):UInt8:=LS.getD n 0
def tP:ao->ao
 | []=>[]
 | b::r=>hx (b.toNat / 16)::hx (b.toNat % 16)::tP r
theorem sJ(l:ao):(tP l).length=2*l.length:=by
 induction l with
 | nil=>rfl
 | cons b r a=>simp only[tP,dh,a];omega
theorem aaA(a b:ao):tP (a++b)=tP a++tP b:=by
 induction a with
 | nil=>rfl
 | cons x r c=>simp only[y8,tP,c]
theorem acj:∀n:Fin 256,idx LS (pd .u8 (n.val:Int) 4)=some (hx<|n.val / 16):=by decide +kernel
theorem ack:∀n:Fin 256,idx LS (mL .u8 (n.val:Int) 15)=some (hx<|n.val % 16):=by decide +kernel
theorem aec(b:UInt8):idx LS (pd .u8 (u8 b) 4)=some (hx<|b.toNat / 16):=acj ⟨b.toNat,b.toNat_lt⟩
theorem aed(b:UInt8):idx LS (mL .u8 (u8 b) 15)=some (hx<|b.toNat % 16):=ack ⟨b.toNat,b.toNat_lt⟩
theorem xp(s:ao){k:Nat}(h:k<s.length):idx (av s) (k:Int)=some (u8 s[k]):=by
 rw[vu];simp[av,u8,h]
theorem AY(s:ao){k:Nat}(h:k<s.length):idx s (k:Int)=some s[k]:=by
 rw[vu];simp[h]
theorem kC(s:ao):len (av s)=(s.length:Int):=by simp[len,av]
theorem PB(s:ao){k:Nat}(h:k<s.length):s.take (k+1)=s.take k++[s[k]]:=by
 rw[Ba,gH h];rfl
theorem Wa(s:ao){k:Nat}(h:k<s.length):av (tP<|s.take<|k+1)=(av (tP<|s.take k)++[u8<|hx<|s[k].toNat / 16])++[u8<|hx<|s[k].toNat % 16]:=by
 rw[PB s h,aaA,r0,kP];rfl
theorem aaB(s:ao)(a:s.length<=1048576){k:Nat}(h:k<s.length)(x y:Int) :
  fits (plus (len<|av<|tP<|s.take k)<|len [x])=true/\fits (plus (len<|av (tP<|s.take k)++[x])<|len [y])=true:=by
 constructor
 .apply de;rw[kC,sJ];simp only[fT,plus,len,dh,eG];omega
 .apply de;have:(av (tP<|s.take k)++[x]).length=2*min k s.length+1:=by
   rw[gI,fS,sJ,fT];rfl
  simp only[plus,len,this,dh,eG];omega
theorem acm(s:ao)(b:s.length<=1048576):tB (s,())=some (tP s,()):=by
 unfold tB;dsimp only;rw[de<|by simp only[len];omega,ab];have key:Loop (lA (s,())) ((0,()),((),(),()),[],())=some (((s.length:Int),()),((),(),()),av<|tP s,()):=by
  have:=cP (f:=lA (s,())) (r:=(((s.length:Int),()),((),(),()),av<|tP s,())) s.length (λk=>(((k:Int),()),((),(),()),av<|tP<|s.take k,())) (λk a=>by
   unfold lA;dsimp only;obtain⟨c,d⟩:=aaB s b a (u8<|hx<|s[k].toNat / 16) (u8<|hx<|s[k].toNat % 16);rw[kC,aJ (by omega),ab,aU (by omega) (by omega),ab,xp s a,aa,aA (by decide),af];rw[show([48,49,50,51,52,53,54,55,56,57,97,98,99,100,101,102]:ao)=LS from rfl,aec,aa,c,ab,aed,aa];unfold app;rw[d,ab,cR,aK (by omega),Wa s a]) (by
   unfold lA;dsimp only;rw[kC,aA (by omega),af,dJ,wI])
  exact this
 rw[key,aa];dsimp only;rw[lP]
theorem ah0:∀n:Fin 16,lY ((n.val:Int),())=some (u8<|hx n.val,()):=by decide +kernel
theorem Ib{n:Nat}(h:n<16):lY ((n:Int),())=some (u8<|hx n,()):=ah0 ⟨n,h⟩
theorem aaC:∀n:Fin 256,GO .i64 (ka .i64 (n.val:Int)) 16=((n.val / 16:Nat):Int):=by decide +kernel
theorem aaD:∀n:Fin 256,iR (ka .i64 (n.val:Int)) 16=((n.val % 16:Nat):Int):=by decide +kernel
theorem aee(b:UInt8):GO .i64 (ka .i64<|u8 b) 16=((b.toNat / 16:Nat):Int):=aaC ⟨b.toNat,b.toNat_lt⟩
theorem aef(b:UInt8):iR (ka .i64<|u8 b) 16=((b.toNat % 16:Nat):Int):=aaD ⟨b.toNat,b.toNat_lt⟩
theorem Uy(s:ao)(b:s.length<=1048576):vx (s,())=some (tP s,()):=by
 unfold vx;have key:Loop (mX (s,())) (((),0,()),[],())=some (((),(s.length:Int),()),av<|tP s,()):=by
  have:=cP (f:=mX (s,())) (r:=(((),(s.length:Int),()),av<|tP s,())) s.length (λk=>(((),(k:Int),()),av<|tP<|s.take k,())) (λk a=>by
   unfold mX;dsimp only;obtain⟨c,d⟩:=aaB s b a (u8<|hx<|s[k].toNat / 16) (u8<|hx<|s[k].toNat % 16);have e:=s[k].toNat_lt;rw[show len s=(s.length:Int) from rfl,aJ (by omega),ab,AY s a,aa,aN (by decide),af,aee,Ib (by omega),aa];dsimp only;rw[c,ab,aa,af,aef,Ib (by omega),aa];dsimp only;unfold app;rw[d,ab,cR,aK (by omega),Wa s a]) (by
   unfold mX;dsimp only;rw[show len s=(s.length:Int) from rfl,aA (by omega),af,dJ,wI])
  exact this
 rw[key,aa];dsimp only;rw[lP]
def hv(c:UInt8):Int:=Lib.indexByte LS c
theorem hvT:∀n:Fin 256,(hv (UInt8.ofNat n.val)=-1/\∀j:Fin 16,hx j.val≠UInt8.ofNat n.val)\/∃j:Fin 16,hv (UInt8.ofNat n.val)=(j.val:Int)/\hx j.val=UInt8.ofNat n.val/\∀i:Fin 16,i.val<j.val->hx i.val≠UInt8.ofNat n.val:=by decide +kernel
theorem zP(c:UInt8):(hv c=-1/\∀j:Nat,j<16->hx j≠c)\/∃j:Nat,j<16/\hv c=(j:Int)/\hx j=c/\∀i:Nat,i<j->hx i≠c:=by
 have h:=hvT ⟨c.toNat,c.toNat_lt⟩;have e:UInt8.ofNat c.toNat=c:=by simp
 simp only[e] at h;rcases h with ⟨a,b⟩|⟨j,a,b,f⟩
 .exact .inl ⟨a,λj g=>b ⟨j,g⟩⟩
 .exact .inr ⟨j.val,j.isLt,a,b,λi d=>f ⟨i,Nat.lt_trans d j.isLt⟩ d⟩
theorem adt:∀n:Fin 16,hv (hx n.val)=(n.val:Int):=by decide +kernel
theorem aeg(c:UInt8):(show Int from u8 c).toNat.toUInt8=c:=by simp[u8]
theorem NB(c:UInt8):bT (LS,u8 c,())=some (hv c,()):=by
 have e:cE (LS,u8 c,())=some (hv c,()):=by
  unfold cE hv;rw[aeg];rfl
 unfold bT;dsimp only;rw[e];rfl
theorem Uz{a b:UInt8}(h:u8 a=u8 b):a=b:=by
 have:a.toNat=b.toNat:=by unfold u8 at h;omega
 exact Qu.1 this
theorem NC(c:UInt8):oz (u8 c,())=some (hv c,()):=by
 unfold oz;have step:∀(r k:Nat),k<16->hx k≠c->dU (u8 c,()) (((r:Int),(k:Int),()),())=some (.inl (((r:Int),((k+1:Nat):Int),()),())):=λr k a b=>by
  unfold dU;dsimp only;rw[aJ<|by omega,ab,Ib a,aa,aN (λe=>b (Uz e)),af,aK (by omega)]
 rcases zP c with ⟨d,g⟩|⟨j,h,d,g,i⟩
 .have:=cP (f:=dU (u8 c,())) (r:=(0,(((0:Nat):Int),((16:Nat):Int),()),())) 16 (λk=>((((0:Nat):Int),(k:Int),()),())) (λk a=>step 0 k a (g k a)) (by
   unfold dU;dsimp only;rw[aA<|by decide,af])
  rw[show Loop (dU (u8 c,())) ((0,0,()),())=_ from this,aa];dsimp only;rw[show du 0 0=true from rfl,ab,d]
 .have:=cP (f:=dU (u8 c,())) (r:=(1,((j:Int),(j:Int),()),())) j (λk=>((((0:Nat):Int),(k:Int),()),())) (λk a=>step 0 k (by omega) (i k a)) (by
   unfold dU;dsimp only;rw[aJ<|by omega,ab,Ib h,aa,aT (by rw[g]),ab])
  rw[show Loop (dU (u8 c,())) ((0,0,()),())=_ from this,aa];dsimp only;rw[show du 1 0=false from rfl,af,d]
def iD:ao->Option ao
 | []=>some []
 | [_]=>none
 | a::b::r=>if hv a<0\/hv b<0 then none else(iD r).map (UInt8.ofNat (16*(hv a).toNat+(hv b).toNat)::·)
theorem afA:∀(i j:Fin 16),ka .u8 (vd .i64 (kb .i64 (i.val:Int) 4) (j.val:Int))=u8 (UInt8.ofNat<|16*i.val+j.val):=by decide +kernel
theorem afB:∀(i j:Fin 16),ka .u8 (aB .i64 (ik .i64 16 (i.val:Int)) (j.val:Int))=u8 (UInt8.ofNat<|16*i.val+j.val):=by decide +kernel
theorem DV(l:ao)(k:Nat)(h:k<=l.length):sub l (k:Int) (minus (len l) (k:Int))=l.drop k:=by
 unfold sub minus len;rw[sQ,A8 (by rw[j8];omega)]
def ans:Option ao->ao×Bool×ah
 | some l=>(l,true,())
 | none=>([],false,())
theorem UA:∀(n:Nat) (s:ao) (acc:List Int),s.length<=n->s.length % 2=0->acc.length+s.length<=2097152 ->
  ∃q,Loop jt ((s,[],false,(),()),acc,())=some q/\(match iD s with
   | some l=>q.1=0/\q.2.2.1=acc++av l
   | none=>q.1=1/\q.2.1.2.1=[]/\q.2.1.2.2.1=false):=by
 intro n;induction n using Nat.strongRecOn with
 | _ n t =>
   intro s acc g d k;rw[aI]
   match s,g,d,k with
   | [],_,_,_ =>
     refine⟨(0,([],[],false,(),()),acc,()),?_,rfl,?_⟩
     .unfold jt;rfl
     .simp[av]
   | [_],_,d,_=>simp at d
   | a::b::r,g,d,k =>
     simp only[dh] at g d k;have e0:jt ((a::b::r,([],false,(),())),acc,())=(if hv a<0\/hv b<0 then some (.inr (1,(a::b::r,([],false,(),())),acc,()))
       else some (.inl ((r,[],false,(),()),acc++[u8<|UInt8.ofNat<|16*(hv a).toNat+(hv b).toNat],()))):=by
      unfold jt;dsimp only;rw[show nt (bw (a::b::r) [])=true from by simp[nt,bw],ab,show idx (a::b::r) 0=some a from rfl,aa,
       show([48,49,50,51,52,53,54,55,56,57,97,98,99,100,101,102]:ao)=LS from rfl,NB,aa,show idx (a::b::r) 1=some b from rfl,aa,NB,aa]
      dsimp only;by_cases m:hv a<0
      .rw[aJ m,aE,af,ab,aV (.inl m)]
      .rw[aA<|by omega,az,ab];by_cases e:hv b<0
       .rw[aJ e,ab,aV (.inr e)]
       .rw[aA<|by omega,af,aX (by omega),aA (by decide),af];have u:ka .u8 (vd .i64 (kb .i64 (hv a) 4)<|hv b)=u8 (UInt8.ofNat<|16*(hv a).toNat+(hv b).toNat):=by
         rcases zP a with ⟨h,_⟩|⟨i,v,h,_⟩
         .omega
         rcases zP b with ⟨o,_⟩|⟨j,w,o,_⟩
         .omega
         rw[h,o];exact afA ⟨i,v⟩ ⟨j,w⟩
        rw[u,de (by simp only[plus,len,dh,eG];omega),ab,aP (by decide) (by simp only[len,dh];omega) (qJ _),ab];have:=DV (a::b::r) 2 (by simp);rw[show sub (a::b::r) 2 (minus (len (a::b::r)) 2)=r from this];rfl
     rw[e0];by_cases c:hv a<0\/hv b<0
     .rw[aV c];refine⟨_,rfl,?_⟩;simp only[iD,aV c];exact⟨trivial,trivial,trivial⟩
     .rw[aX c];obtain⟨q,x,f⟩:=t r.length (by omega) r (acc++[u8<|UInt8.ofNat<|16*(hv a).toNat+(hv b).toNat]) (bZ _) (by omega) (by simp only[gI,dh,eG];omega);refine⟨q,x,?_⟩;simp only[iD,aX c];cases p:iD r with
      | none=>rw[p] at f;exact f
      | some l =>
        rw[p] at f;refine⟨f.1,?_⟩;rw[f.2,kP];rfl
theorem JY:∀(n:Nat) (s:ao),s.length<=n->s.length % 2=1->iD s=none:=by
 intro n;induction n using Nat.strongRecOn with
 | _ n d =>
   intro s c h
   match s,c,h with
   | [],_,h=>simp at h
   | [_],_,_=>rfl
   | a::b::r,c,h =>
     simp only[dh] at c h;simp only[iD];split
     .rfl
     .rw[d r.length (by omega) r (bZ _)<|by omega];rfl
theorem ND(s:ao)(d:s.length<=1048576):mW (s,())=some (ans<|iD s):=by
 unfold mW;dsimp only;rw[aN<|by decide,af,show iR (len s) 2=((s.length % 2:Nat):Int) from sI s.length 2];rcases ac3 s.length with h|h
 .rw[h,show aZ ((0:Nat):Int) 0=true from rfl,aE,af];obtain⟨q,c,a⟩:=UA s.length s [] (bZ _) h (by simp;omega);rw[c,aa];cases b:iD s with
  | none =>
    rw[b] at a;rw[a.1,show du 1 0=false from rfl,af,a.2.1,a.2.2];rfl
  | some l =>
    rw[b] at a;rw[a.1,show du 0 0=true from rfl,ab,a.2,sd,lP];rfl
 .rw[h,show aZ ((1:Nat):Int) 0=false from rfl,az,ab,JY s.length s (bZ _) h];rfl
theorem uO{a b:Nat}(h:a+b<4611686018427387904):aB .i64 (a:Int) (b:Int)=((a+b:Nat):Int):=by
 rw[fk (by omega)<|by omega];omega
theorem LU(s:ao)(z:s.length<=1048576):∀(n i:Nat) (acc:List Int),s.length-i<=n->i<=s.length->(s.length-i) % 2=0->acc.length<=i ->
  ∃q,Loop (hU (s,())) ((([]:ao),false,(),(i:Int),()),acc,())=some q/\(match iD (s.drop i) with
   | some l=>q.1=0/\q.2.2.1=acc++av l
   | none=>q.1=1/\q.2.1.1=[]/\q.2.1.2.1=false):=by
 intro n;induction n using Nat.strongRecOn with
 | _ n t =>
   intro i acc A B C D;rw[aI];by_cases d:i<s.length
   .have o:i+1<s.length:=by omega
    have hd:s.drop i=s[i]::s[i+1]::s.drop (i+2):=by
     rw[y7 d,y7 o]
    rw[hd];generalize u:s[i]=a;generalize m:s[i+1]=b;have e0:hU (s,()) ((([]:ao),false,(),(i:Int),()),acc,())=(if hv a<0\/hv b<0 then some (.inr (1,([],false,(),(i:Int),()),acc,()))
      else some (.inl ((([]:ao),false,(),((i+2:Nat):Int),()),acc++[u8<|UInt8.ofNat<|16*(hv a).toNat+(hv b).toNat],()))):=by
     unfold hU;dsimp only;rw[aK<|by omega,aJ (by simp only[len];omega),ab,AY s d,aa,u,NC,aa,AY s o,aa,m,NC,aa];dsimp only;by_cases e:hv a<0
     .rw[aJ e,aE,af,ab,aV (.inl e)]
     .rw[aA<|by omega,az,ab];by_cases f:hv b<0
      .rw[aJ f,ab,aV (.inr f)]
      .rw[aA<|by omega,af,aX (by omega)];have v:ka .u8 (aB .i64 (ik .i64 16<|hv a)<|hv b)=u8 (UInt8.ofNat<|16*(hv a).toNat+(hv b).toNat):=by
        rcases zP a with ⟨h,_⟩|⟨j,w,h,_⟩
        .omega
        rcases zP b with ⟨p,_⟩|⟨k,x,p,_⟩
        .omega
        rw[h,p];exact afB ⟨j,w⟩ ⟨k,x⟩
       rw[v,de (by simp only[plus,len,dh,eG];omega),ab,show aB .i64 (i:Int) 2=((i+2:Nat):Int) from uO (b:=2) (by omega)];rfl
    rw[e0];by_cases c:hv a<0\/hv b<0
    .rw[aV c];refine⟨_,rfl,?_⟩;simp only[iD,aV c];exact⟨trivial,trivial,trivial⟩
    .rw[aX c];obtain⟨q,y,g⟩:=t (s.length-(i+2)) (by omega) (i+2) (acc++[u8<|UInt8.ofNat<|16*(hv a).toNat+(hv b).toNat]) (bZ _) (by omega) (by omega) (by simp only[gI,dh,eG];omega);refine⟨q,y,?_⟩;simp only[iD,aX c];cases r:iD (s.drop<|i+2) with
     | none=>rw[r] at g;exact g
     | some l =>
       rw[r] at g;refine⟨g.1,?_⟩;rw[g.2,kP];rfl
   .have:i=s.length:=by omega
    subst this;rw[Iv];refine⟨(0,([],false,(),(s.length:Int),()),acc,()),?_,rfl,by simp[av]⟩;unfold hU;dsimp only;rw[aK<|by omega,aA (by simp only[len];omega),af];rfl
theorem DW(s:ao)(c:s.length<=1048576):oA (s,())=some (ans<|iD s):=by
 unfold oA;dsimp only;rw[aN<|by decide,af,show iR (len s) 2=((s.length % 2:Nat):Int) from sI s.length 2];rcases ac3 s.length with h|h
 .rw[h,show aZ ((0:Nat):Int) 1=false from rfl,af];obtain⟨q,d,a⟩:=LU s c s.length 0 [] (by omega) (by omega) (by simpa using h) (by simp);rw[show Loop (hU (s,())) (([],false,(),0,()),[],())=some q from d,aa];rw[wK] at a;cases b:iD s with
  | none =>
    rw[b] at a;rw[a.1,show du 1 0=false from rfl,af,a.2.1,a.2.2];rfl
  | some l =>
    rw[b] at a;rw[a.1,show du 0 0=true from rfl,ab,a.2,sd,lP];rfl
 .rw[h,show aZ ((1:Nat):Int) 1=true from rfl,ab,JY s.length s (bZ _) h];rfl
theorem XG:∀l:ao,iD (tP l)=some l:=by
 intro l;induction l with
 | nil=>rfl
 | cons b r d =>
   have e:=b.toNat_lt;have a:=adt ⟨b.toNat / 16,by omega⟩;have c:=adt ⟨b.toNat % 16,by omega⟩;simp only at a c;simp only[tP,iD,a,c,d,EG];rw[aX<|by omega]
   congr 2
   rw[sQ,sQ,show 16*(b.toNat / 16)+b.toNat % 16=b.toNat by omega];simp
def uP:ao:=[115,104,97,50,53,54,58]
def rq(s:ao):ao:=uP++tP (aY<|YI s)
theorem Gs(s:ao):(rq s).length=71:=by
 unfold rq;rw[gI,sJ];simp[aY,pr,uP]
theorem NF{a:Type}(l:List a)(n:Nat)(h:l.length=n):sub l 0 (minus n 0)=l:=by
 unfold sub minus;rw[show((0:Int).toNat)=0 from rfl,wK,A8 (by omega)]
theorem aeh(s:ao)(a:s.length<=1048576):vw (s,())=some (rq s,()):=by
 unfold vw;dsimp only;rw[Ux s a,aa,aP (by decide) (by decide) (by decide),ab];dsimp only;rw[show sub (YI s) 0 (minus 32 0)=YI s from NF _ 32 (pr s),acm _ (by simp[aY,pr]),aa];dsimp only;rw[de<|by simp only[plus,len,sJ,aY,sR,pr,dh,eG];omega,ab];rfl
theorem Ft(s:ao)(a:s.length<=1048576):mY (s,())=some (rq s,()):=by
 unfold mY;dsimp only;rw[Uw s a,aa,aP (by decide) (by decide) (by decide),ab];dsimp only;rw[show sub (YI s) 0 (minus 32 0)=YI s from NF _ 32 (pr s),Uy _ (by simp[aY,pr]),aa];dsimp only;rw[de<|by simp only[plus,len,sJ,aY,sR,pr,dh,eG];omega,ab];rfl
def XH(t:ao):Int:=if t.length=71/\t.take 7=uP/\(iD<|t.drop 7).isSome=true then 0 else 2
theorem DX(l:ao)(k:Nat):sub l 0 (minus (k:Int) 0)=l.take k:=by
 unfold sub minus;rw[show((0:Int).toNat)=0 from rfl,wK,Int.sub_zero,sQ]
theorem LV(t:ao):bH (t,uP,())=some (decide<|t.take 7=uP,()):=by
 unfold bH;dsimp only;by_cases h:7<=t.length
 .rw[dc<|by simp only[len];show(7:Int)<=_;omega,ab,show inside 0 (len uP) (len t)=true from aP (by decide) (by decide) (by simp only[len];show(7:Int)<=_;omega),ab,
   show sub t 0 (minus (len uP) 0)=t.take 7 from DX t 7,aa]
  rfl
 .rw[fu<|by simp only[len];show _<(7:Int);omega,af,aa];have:¬t.take 7=uP:=λe=>by
   have:=congrArg List.length e;rw[fT] at this;have a:uP.length=7:=rfl;omega
  rw[cU this]
theorem acn(t:ao):ea (t,uP,())=some (if t.take 7=uP then(t.drop 7,true,()) else(t,false,())):=by
 unfold ea dG;dsimp only;rw[LV,aa];dsimp only;by_cases h:t.take 7=uP
 .have a:7<=t.length:=by
   have:=congrArg List.length h;rw[fT] at this;have:uP.length=7:=rfl;omega
  rw[eu h,aE,af,show inside (len uP) (len t) (len t)=true from aP (by decide) (by simp only[len];show(7:Int)<=_;omega) (qJ _),ab,aa,aV h,
   show sub t (len uP) (minus (len t)<|len uP)=t.drop 7 from DV t 7 a]
 .rw[cU h,az,ab,aa,aX h]
theorem XI(t:ao)(b:t.length<=1048576):cQ (t,())=some (XH t,()):=by
 unfold cQ;dsimp only;rw[show([115,104,97,50,53,54,58]:ao)=uP from rfl,acn,aa];unfold XH;by_cases h:t.take 7=uP
 .have c:7<=t.length:=by
   have:=congrArg List.length h;rw[fT] at this;have:uP.length=7:=rfl;omega
  rw[aV h];dsimp only;rw[ND _<|by rw[j8];omega,aa,aE,az,ab];cases d:iD (t.drop 7) with
  | none =>
    rw[aX<|by simp];show aj (aj (nt<|nt false) _ true) (some (2,())) _=_
    rw[az,aE,af,ab]
  | some l =>
    show aj (aj (nt<|nt true) _ true) _ _=_
    rw[aE,az,ab];by_cases a:t.length=71
    .rw[aT<|by simp only[len,j8];omega,aE,af,aV ⟨a,h,rfl⟩]
    .rw[aN<|by simp only[len,j8];omega,az,ab,aX λe=>a e.1]
 .rw[aX h];dsimp only;rw[ND _ b,aa,az,aE,af,aE,af,ab,aX λe=>h e.2.1]
theorem PC(t:ao)(b:t.length<=1048576):rJ (t,())=some (XH t,()):=by
 unfold rJ XH;dsimp only;by_cases a:t.length=71
 .rw[aT<|by simp only[len];omega,aE,az,ab,aP (by decide) (by decide) (by simp only[len];omega),ab,aa,
   show sub t 0 (minus 7 0)=t.take 7 from DX t 7,show([115,104,97,50,53,54,58]:ao)=uP from rfl]
  by_cases h:t.take 7=uP
  .rw[h,jo,aE,af,aP (by decide) (by simp only[len];omega) (qJ _),ab,
    show sub t 7 (minus (len t) 7)=t.drop 7 from DV t 7 (by omega),DW _ (by rw[j8];omega),aa]
   cases c:iD (t.drop 7) with
   | none =>
     rw[aX<|by simp];show aj (nt false) (some (2,())) _=_
     rw[az,ab]
   | some l =>
     show aj (nt true) _ _=_
     rw[aE,af,aV ⟨a,rfl,rfl⟩]
  .rw[show bw (t.take 7) uP=false from cU h,az,ab,aX λe=>h e.2.1]
 .rw[aN<|by simp only[len];omega,az,aE,af,aa,ab,aX λe=>a e.1]
theorem XJ(s:ao):(rq s).take 7=uP:=CK rfl
theorem XK(s:ao):(rq s).drop 7=tP (aY<|YI s):=CI rfl
theorem UB(s:ao):XH (rq s)=0:=by
 have a:(iD<|(rq s).drop 7).isSome=true:=by
  rw[XK,XG];rfl
 exact aV ⟨Gs s,XJ s,a⟩
theorem aei(d s:ao)(a:s.length<=1048576):kJ (d,s,())=some (decide<|d=rq s,()):=by
 unfold kJ;dsimp only;rw[aeh s a,aa];rfl
def ah2(n k:Nat):UInt8:=UInt8.ofNat (48+n / 8 ^ k % 8)
def UC(n:Nat):Nat->ao
 | 0=>[]
 | k+1=>ah2 n k::UC n k
set_option maxRecDepth 100000
def cj(p:UInt8->Bool)(s:ao):ao:=(s.reverse.dropWhile p).reverse
theorem uQ{p:UInt8->Bool}(s:ao){x:UInt8}(h:p x=true):cj p (s++[x])=cj p s:=by
 simp[cj,FU,h]
theorem wm{p:UInt8->Bool}(s:ao){x:UInt8}(h:p x=false):cj p (s++[x])=s++[x]:=by
 simp[cj,FU,h]
theorem NG{p:UInt8->Bool}:∀(z s:ao),(∀x∈z,p x=true)->cj p (s++z)=cj p s:=by
 intro z;induction z with
 | nil=>intro s _;rw[y9]
 | cons x r a =>
   intro s h;rw[show s++x::r=(s++[x])++r by simp,a (s++[x]) (λy b=>h y (oh _ b)),uQ s (h x<|mJ ..)]
theorem aaE{p:UInt8->Bool}{s:ao}(h:∀x,s.getLast?=some x->p x=false):cj p s=s:=by
 rcases Vo s with rfl|⟨r,x,rfl⟩
 .rfl
 .have:=h x (by simp);rw[YW];exact wm r this
theorem RX(r:ao)(x:UInt8)(a:r.length<=1048576):cd .i64 (len<|r++[x]) 1=(r.length:Int)/\idx (r++[x]) (r.length:Int)=some x:=by
 constructor
 .have:len (r++[x])=((r.length+1:Nat):Int):=by simp[len]
  rw[this,dx (by omega) (by omega)];omega
 .rw[vu];simp
theorem LW(c:Int):∀(n:Nat) (s:ao),s.length<=n->s.length<=1048576->∀q:ao,Loop (e7 (q,c,())) ((s,()),())=some ((cj (λx=>aZ (u8 x) c) s,()),()):=by
 intro n;induction n with
 | zero =>
   intro s h _ q;obtain rfl:s=[]:=vU.1 (by omega);rw[aI];rfl
 | succ n b =>
   intro s h a q;rcases Vo s with rfl|⟨r,x,rfl⟩
   .rw[aI];rfl
   .rw[YW] at h a⊢;rw[gI] at h a;simp only[dh,eG] at h a;obtain⟨d,e⟩:=RX r x (by omega);rw[aI];have e0:e7 (q,c,()) ((r++[x],()),())=if aZ (u8 x) c=true then some (.inl ((r,()),())) else some (.inr ((r++[x],()),())):=by
     unfold e7;dsimp only;rw[aJ<|by simp only[len,gI,dh,eG];omega,ab,d,e,aa,aa];cases hx:aZ (u8 x) c with
     | true =>
       rw[ab,aP (by omega) (by omega) (by simp only[len,gI];omega),ab,cR,show sub (r++[x]) 0 (minus (r.length:Int) 0)=r from by rw[DX];simp,aV rfl]
     | false=>rw[af,dJ,aX (by simp)]
    rw[e0];cases hx:aZ (u8 x) c with
    | true =>
      rw[aV rfl,uQ r (p:=λx=>aZ (u8 x) c) hx];exact b r (by omega) (by omega) q
    | false =>
      rw[aX<|by simp,wm r (p:=λx=>aZ (u8 x) c) hx];rfl
theorem vH(s:ao)(c:Int)(a:s.length<=1048576):eI (s,c,())=some (cj (λx=>aZ (u8 x) c) s,()):=by
 unfold eI;rw[LW c s.length s (bZ _) a s,aa]
def b8(x:UInt8):Bool:=aZ (u8 x) 0
theorem xq(x:UInt8):b8 x=true↔x=0:=by
 unfold b8 aZ;rw[FW];constructor
 .intro h;exact Uz (a:=x) (b:=0) h
 .rintro rfl;rfl
theorem LX(s:ao)(a:s.length<=1048576):ec (s,[0],())=some (cj b8 s,()):=by
 unfold ec;dsimp only;by_cases h:s=[]
 .subst h;rfl
 .rw[show bw s []=false from cU h,az,ab,show bw [0] []=false from rfl,af,show aZ (len ([0]:ao)) 1=true from rfl,ab,show idx ([0]:ao) 0=some 0 from rfl,aa,aa,show ba (u8 0) 128=true from rfl,ab,aa,
   vH s _ a,aa]
  rfl
def sK:List Bool:=((List.replicate 256 false).set 0 true).set 32 true
def vh(x:UInt8):Bool:=sK.getD x.toNat false
theorem PD:sK.length=256:=by simp only[sK,List.length_set,Ql]
theorem aej:∀n:Fin 256,sK.getD n.val false=(decide (n.val=0)||decide (n.val=32)):=by decide +kernel
theorem RY(x:UInt8):vh x=true↔x=0\/x=32:=by
 unfold vh;rw[aej ⟨x.toNat,x.toNat_lt⟩];simp only[wJ,FW];constructor
 .rintro(h|h)
  .exact .inl (Qu.1 h)
  .exact .inr (Qu.1 h)
 .rintro(rfl|rfl)
  .exact .inl rfl
  .exact .inr rfl
theorem PE(x:UInt8):dH ((u8 x,()),sK,())=some ((vh x,()),sK,()):=by
 unfold dH;have hx:=x.toNat_lt;have e:u8 x=(x.toNat:Int):=rfl;dsimp only;rw[e,aU (by omega) (by omega),ab,fl sK false (i:=x.toNat) (by show _<sK.length;rw[PD];omega),aa];rfl
theorem RZ:e8 ([0,32],())=some (sK,true,()):=by
 unfold e8;have key:Loop (dd ([0,32],())) ((false,0,()),List.replicate 256 false,())=some (0,(false,2,()),sK,()):=by
  rw[aI,show dd ([0,32],()) ((false,0,()),List.replicate 256 false,())=some (.inl ((false,1,()),(List.replicate 256 false).set 0 true,())) from rfl];show Loop (dd ([0,32],())) ((false,1,()),(List.replicate 256 false).set 0 true,())=_
  rw[aI,show dd ([0,32],()) ((false,1,()),(List.replicate 256 false).set 0 true,())=some (.inl ((false,2,()),sK,())) from rfl];show Loop (dd ([0,32],())) ((false,2,()),sK,())=_
  rw[aI];rfl
 exact(congrArg (ae · _) key).trans rfl
theorem R0:∀(n:Nat) (s:ao),s.length<=n->s.length<=1048576->Loop eN ((s,()),sK,())=some ((cj vh s,()),sK,()):=by
 intro n;induction n with
 | zero =>
   intro s h _;obtain rfl:s=[]:=vU.1 (by omega);rw[aI];rfl
 | succ n b =>
   intro s h a;rcases Vo s with rfl|⟨r,x,rfl⟩
   .rw[aI];rfl
   .rw[YW] at h a⊢;rw[gI] at h a;simp only[dh,eG] at h a;obtain⟨c,d⟩:=RX r x (by omega);rw[aI];have e0:eN ((r++[x],()),sK,())=if vh x=true then some (.inl ((r,()),sK,())) else some (.inr ((r++[x],()),sK,())):=by
     unfold eN;dsimp only;rw[aJ<|by simp only[len,gI,dh,eG];omega,ab,c,d,aa,PE,aa];dsimp only;cases hx:vh x with
     | true =>
       rw[aE,af,aP (by omega) (by omega) (by simp only[len,gI];omega),ab,cR,show sub (r++[x]) 0 (minus (r.length:Int) 0)=r from by rw[DX];simp,aV rfl]
     | false=>rw[az,ab,dJ,aX (by simp)]
    rw[e0];cases hx:vh x with
    | true =>
      rw[aV rfl,uQ r hx];exact b r (by omega) (by omega)
    | false =>
      rw[aX<|by simp,wm r hx];rfl
theorem DY(s:ao)(a:s.length<=1048576):ec (s,[0,32],())=some (cj vh s,()):=by
 unfold ec;dsimp only;by_cases h:s=[]
 .subst h;rfl
 .rw[show bw s []=false from cU h,az,ab,show bw [0,32] []=false from rfl,af,show aZ (len ([0,32]:ao)) 1=false from rfl,af,aa,af,RZ,aa];dsimp only;rw[ab];unfold fO;dsimp only;rw[R0 s.length s (bZ _) a];rfl
theorem LY(c:Int):∀(n:Nat) (s:ao),s.length<=n->∀q:ao,Loop (fB (q,c,())) ((s,()),())=some ((s.dropWhile<|λx=>aZ (u8 x) c,()),()):=by
 intro n;induction n with
 | zero =>
   intro s h q;obtain rfl:s=[]:=vU.1 (by omega);rw[aI];rfl
 | succ n a =>
   intro s h q;cases s with
   | nil=>rw[aI];rfl
   | cons x r =>
     simp only[dh] at h;rw[aI];have e0:fB (q,c,()) ((x::r,()),())=if aZ (u8 x) c=true then some (.inl ((r,()),())) else some (.inr ((x::r,()),())):=by
      unfold fB;dsimp only;rw[aJ<|by simp only[len,dh];omega,ab,show idx (x::r) 0=some x from rfl,aa,aa];cases hx:aZ (u8 x) c with
      | true =>
        rw[ab,aP (by decide) (by simp only[len,dh];omega) (qJ _),ab,cR,show sub (x::r) 1 (minus (len (x::r)) 1)=r from DV (x::r) 1 (by simp),aV rfl]
      | false=>rw[af,dJ,aX (by simp)]
     rw[e0,FU];cases hx:aZ (u8 x) c with
     | true =>
       rw[aV rfl,aV rfl];exact a r (by omega) q
     | false =>
       rw[aX<|by simp,aX (by simp)];rfl
theorem Fu(s:ao)(c:Int):gO (s,c,())=some (s.dropWhile<|λx=>aZ (u8 x) c,()):=by
 unfold gO;rw[LY c s.length s (bZ _) s,aa]
theorem Fv{p:UInt8->Bool}{l:ao}{x:UInt8}(h:x∈l.takeWhile p):p x=true:=sb.1 List.all_takeWhile x h
theorem R1(s:ao)(a:s.length<=1048576):km (s,[0],())=some ((cj b8 s).dropWhile b8,()):=by
 unfold km;dsimp only;by_cases h:s=[]
 .subst h;rfl
 .rw[show bw s []=false from cU h,az,ab,show bw [0] []=false from rfl,af,show aZ (len ([0]:ao)) 1=true from rfl,ab,show idx ([0]:ao) 0=some 0 from rfl,aa,aa,show ba (u8 0) 128=true from rfl,ab,aa,
   vH s _ a,aa,aa,Fu,aa]
  rfl
theorem uR(s:ao):(cj b8 s).dropWhile b8=[]↔∀x∈s,x=0:=by
 constructor
 .intro h;have e:∀x∈cj b8 s,b8 x=true:=by
   intro x a;have:=Lg (p:=b8) (l:=cj b8 s);rw[h,y9] at this;rw[<-this] at a;exact Fv a
  have b:cj b8 s=[]:=by
   rcases Vo (cj b8 s) with b|⟨r,x,b⟩
   .exact b
   .exfalso;have a:=e x (by rw[b];simp);unfold cj at b;have c:(s.reverse.dropWhile b8)=x::r.reverse:=by
     have:=congrArg List.reverse b;simpa using this
    have:=List.head?_dropWhile_not b8 s.reverse;rw[c] at this;simp[a] at this
  intro x a;have c:s.reverse.dropWhile b8=[]:=by
   have:=congrArg List.reverse b;simpa [cj] using this
  have:=Lg (p:=b8) (l:=s.reverse);rw[c,y9] at this;have d:x∈s.reverse:=Qr.2 a;rw[<-this] at d;exact(xq x).1 (Fv d)
 .intro h;have:cj b8 s=[]:=by
   have:=NG (p:=b8) s [] (λx a=>(xq x).2 (h x a));rw[sd] at this;exact this
  rw[this];rfl
theorem JZ(b:ao)(c:b.length<=1048576):rK (b,())=some (decide (b.length=512/\∀x∈b,x=0),()):=by
 unfold rK;dsimp only;by_cases h:b.length=512
 .rw[aT<|by simp only[len];omega,ab,R1 b c,aa,aa]
  congr 2
  unfold bw;dsimp only;by_cases a:∀x∈b,x=0
  .rw[eu<|(uR b).2 a,eu ⟨h,a⟩]
  .rw[cU<|λe=>a ((uR b).1 e),cU λe=>a e.2]
 .rw[aN<|by simp only[len];omega,af,aa,cU λe=>h e.1]
end Go.Ge
namespace Go.Ge
variable [Lp]
theorem adu:∀d:Fin 8,ka .i64 (cd .u8 ((48+d.val:Nat):Int) 48)=(d.val:Int):=by decide +kernel
theorem ah3{v d:Nat}(a:d<8)(g:8*v+d<9223372036854775808):vd .i64 (kb .i64 (v:Int) 3) (ka .i64<|cd .u8 ((48+d:Nat):Int) 48)=((8*v+d:Nat):Int):=by
 rw[adu ⟨d,a⟩];have b:kb .i64 (v:Int) 3=((8*v:Nat):Int):=by
  unfold kb;rw[show min (Int.toNat 3) IntKind.i64.bits=3 from rfl,show(v:Int)*2 ^ 3=((8*v:Nat):Int) by omega];exact xZ (by omega) (by omega)
 rw[b];unfold vd;have e:(BitVec.ofInt IntKind.i64.bits ((8*v:Nat):Int) ||| BitVec.ofInt IntKind.i64.bits (d:Int)).toNat=8*v+d:=by
  rw[BitVec.toNat_or];have c:(BitVec.ofInt IntKind.i64.bits ((8*v:Nat):Int)).toNat=2 ^ 3*v:=by
   rw[Y1,show(IntKind.i64.bits)=64 from rfl];omega
  have f:(BitVec.ofInt IntKind.i64.bits (d:Int)).toNat=d:=by
   rw[Y1,show(IntKind.i64.bits)=64 from rfl];omega
  rw[c,f,<-Nat.two_pow_add_eq_or_of_lt a]
 rw[e];exact xZ (by omega) (by omega)
def vI(s:ao):Prop:=∀x∈s,x≠0
instance (s:ao):Decidable (vI s):=inferInstanceAs (Decidable (∀x∈s,x≠0))
theorem Fw:∀s:ao,decide (Lib.indexByte s 0<0)=decide (vI s):=by
 intro s;induction s with
 | nil=>rfl
 | cons b r c =>
   unfold Lib.indexByte;by_cases e:b=0
   .subst e;rw[aV<|by rfl,cU (by decide),cU λh=>h 0 (mJ ..) rfl]
   .rw[aX<|by simpa using e];by_cases d:vI r
    .rw[eu d] at c;have f:Lib.indexByte r 0<0:=kH c;have i:=(yL 0 r).1;have g:Lib.indexByte r 0=-1:=by omega
     rw[g,aV (by rfl),eu (by decide),eu];intro x a;rcases gd.1 a with rfl|a
     .exact e
     .exact d x a
    .rw[cU d] at c;have f:¬Lib.indexByte r 0<0:=Ol c;rw[aX<|by simp only[QA];omega,cU (by omega),cU];intro h;exact d λx a=>h x (oh _ a)
theorem DZ(s:ao):bT (s,0,())=some (Lib.indexByte s 0,()):=rfl
theorem D0(s:ao)(a:s.length<=1048576):jO (s,())=some (cj b8 s,decide<|vI<|cj b8 s,()):=by
 unfold jO;dsimp only;rw[LX s a,aa];dsimp only;rw[DZ,aa];unfold ba;dsimp only;rw[Fw]
abbrev Hd:=ao×Int×Int×Int×Int×Int×Int×ao×ah
def Tf(s:ao)(a:Int):Prop:=s≠[]/\(s.length:Int)<=a/\vI s
instance (s:ao) (a:Int):Decidable (Tf s a):=inferInstanceAs (Decidable<|_/\_/\_)
def H6(n b:Int):Prop:=0<=n/\n<b
instance (n b:Int):Decidable (H6 n b):=inferInstanceAs (Decidable<|_/\_)
def kindOk(h:Hd):Prop:=(h.2.1=1/\h.2.2.2.2.2.2.2.1=[])\/(h.2.1=2/\h.2.2.2.2.2.2.2.1=[]/\h.2.2.2.2.2.1=0)\/(h.2.1=3/\Tf h.2.2.2.2.2.2.2.1 100/\h.2.2.2.2.2.1=0)
instance (h:Hd):Decidable (kindOk h):=inferInstanceAs (Decidable<|_\/_\/_)
def HB(h:Hd)(a:Int):Prop:=H6 h.2.2.1 2097152/\H6 h.2.2.2.1 2097152/\H6 h.2.2.2.2.1 2097152/\H6 h.2.2.2.2.2.1 8589934592/\H6 h.2.2.2.2.2.2.1 8589934592/\Tf h.1 a/\kindOk h
instance (h:Hd) (a:Int):Decidable (HB h a):=inferInstanceAs (Decidable<|_/\_/\_/\_/\_/\_/\_)
theorem Cq(n b:Int):kK (n,b,())=some (decide<|H6 n b,()):=by
 unfold kK;dsimp only;by_cases h:0<=n
 .rw[dc h,ab];unfold ba H6
  congr 2
  simp[h]
 .rw[fu<|by omega,af,cU λe=>h e.1]
theorem NH(s:ao)(m:Int):mZ (s,m,())=some (decide<|Tf s m,()):=by
 unfold mZ;dsimp only;by_cases h:s=[]
 .subst h;rw[show bw [] []=true from rfl,aE,af,af,aa,cU λe=>e.1 rfl]
 .rw[show bw s []=false from cU h,az,ab];by_cases a:(s.length:Int)<=m
  .rw[dc<|by simp only[len];exact a,ab,DZ,aa,aa];unfold ba;dsimp only;rw[Fw]
   congr 2
   unfold Tf;simp[h,a]
  .rw[fu<|by simp only[len];omega,af,aa,cU λe=>a e.2.1]
theorem R2(h:Hd)(m:Int):pF (h,m,())=some (decide<|HB h m,()):=by
 unfold pF;dsimp only;by_cases d:H6 h.2.2.1 2097152
 case neg=>rw[Cq,aa,cU d,af,aa,af,aa,af,aa,af,aa,az,aE,af,aa,ab,cU λe=>d e.1]
 rw[Cq,aa,eu d,ab,Cq,aa,aa];by_cases f:H6 h.2.2.2.1 2097152
 case neg=>rw[cU f,af,aa,af,aa,af,aa,az,aE,af,aa,ab,cU λe=>f e.2.1]
 rw[eu f,ab,Cq,aa,aa];by_cases g:H6 h.2.2.2.2.1 2097152
 case neg=>rw[cU g,af,aa,af,aa,az,aE,af,aa,ab,cU λe=>g e.2.2.1]
 rw[eu g,ab,Cq,aa,aa];by_cases i:H6 h.2.2.2.2.2.1 8589934592
 case neg=>rw[cU i,af,aa,az,aE,af,aa,ab,cU λe=>i e.2.2.2.1]
 rw[eu i,ab,Cq,aa,aa];by_cases j:H6 h.2.2.2.2.2.2.1 8589934592
 case neg=>rw[cU j,az,aE,af,aa,ab,cU λe=>j e.2.2.2.2.1]
 rw[eu j,aE,az,ab,NH,aa,aa];by_cases k:Tf h.1 m
 case neg=>rw[cU k,az,ab,cU λe=>k e.2.2.2.2.2.1]
 rw[eu k,aE,af];have n:decide (HB h m)=decide (kindOk h):=jV.2 ⟨λe=>e.2.2.2.2.2.2,λe=>⟨d,f,g,i,j,k,e⟩⟩;rw[n];by_cases l:h.2.1=1
 .rw[l,gx,ab];unfold bw;rw[show decide (h.2.2.2.2.2.2.2.1=[])=decide (kindOk h) from jV.2 (by unfold kindOk;simp[l])]
 .rw[aN l,af];by_cases b:h.2.1=2
  .rw[b,gx,ab];unfold bw aZ;by_cases a:h.2.2.2.2.2.2.2.1=[]
   .rw[eu a,ab,show decide (h.2.2.2.2.2.1=0)=decide (kindOk h) from jV.2 (by unfold kindOk;simp[b,a])]
   .rw[cU a,af,show decide (kindOk h)=false from cU (by unfold kindOk;simp[b,a])]
  .rw[aN b,af];by_cases c:h.2.1=3
   .rw[c,gx,ab,NH,aa];dsimp only;unfold aZ;by_cases a:Tf h.2.2.2.2.2.2.2.1 100
    .rw[eu a,ab,show decide (h.2.2.2.2.2.1=0)=decide (kindOk h) from jV.2 (by unfold kindOk;simp[c,a])]
    .rw[cU a,af,show decide (kindOk h)=false from cU (by unfold kindOk;simp[c,a])]
   .rw[aN c,af,show decide (kindOk h)=false from cU (by unfold kindOk;simp[l,b,c])]
def b9:ao->List ao
 | []=>[[]]
 | b::r=>if b=47 then []::b9 r else match b9 r with
   | h::t=>(b::h)::t
   | []=>[[b]]
theorem n9(s:ao):b9 s≠[]:=by
 cases s with
 | nil=>simp[b9]
 | cons b r =>
   unfold b9;split
   .simp
   .split<;>simp
theorem jD{b:UInt8}(h:b≠47){r x:ao}{t:List ao}(e:b9 r=x::t):b9 (b::r)=(b::x)::t:=by
 rw[b9,aX h,e]
def parts(p:ao):List ao:=if p=[] then [] else b9 p
theorem R4{b:UInt8}(h:b≠47):∀(k:Nat) (r x:ao) (t:List ao),Lib.splitK [47] 0 k r=x::t->Lib.splitK [47] 0 k (b::r)=(b::x)::t:=by
 intro k r x t e;cases k with
 | zero=>simp[Lib.splitK] at e⊢;exact⟨by rw[e.1],e.2⟩
 | succ k =>
   have a:Lib.index (b::r) [47]=if Lib.index r [47]==-1 then -1 else Lib.index r [47]+1:=by
    rw[Lib.index];have:([47]:ao).isPrefixOf (b::r)=false:=by simp[List.isPrefixOf,FY h]
    rw[this];simp
   have f:=Lib.index_ge r [47];unfold Lib.splitK at e⊢;rw[a];by_cases c:(Lib.index r [47]==-1)=true
   .rw[aV c] at e⊢;simp at e⊢;exact⟨e.1,e.2⟩
   .rw[aX c] at e⊢;have g:Lib.index r [47]≠-1:=λq=>c (by rw[q];rfl);have i:¬((Lib.index r [47]+1==-1)=true):=λq=>by have:=QA.1 q;omega
    rw[aX i];obtain⟨j,n⟩:∃j:Nat,Lib.index r [47]=j:=⟨(Lib.index r [47]).toNat,by omega⟩;have l:(Lib.index r [47]+1).toNat=j+1:=by omega
    have m:(Lib.index r [47]).toNat=j:=by omega
    rw[l];rw[m] at e;have:=MY e;rw[show j+1+([47]:ao).length=(j+([47]:ao).length)+1 by omega,List.drop_succ_cons,this.2];have d:=this.1;simp at d⊢;exact d
theorem PF(k:Nat)(r:ao):Lib.splitK [47] 0 (k+1) (47::r)=[]::Lib.splitK [47] 0 k r:=by
 have a:Lib.index (47::r) [47]=0:=by rw[Lib.index];simp[List.isPrefixOf]
 rw[Lib.splitK,a];simp
theorem XL:∀(s:ao) (k:Nat),s.count 47<=k->Lib.splitK [47] 0 k s=b9 s:=by
 intro s;induction s with
 | nil =>
   intro k _;cases k with
   | zero=>rfl
   | succ k=>simp[Lib.splitK,b9,Lib.index]
 | cons b r e =>
   intro k a;by_cases h:b=47
   .subst h;obtain⟨c,rfl⟩:∃c,k=c+1:=⟨k-1,by rw[List.count_cons_self] at a;omega⟩;rw[PF,e c (by rw[List.count_cons_self] at a;omega),b9,aV rfl]
   .have:=e k (by rwa [List.count_cons_of_ne h] at a);cases d:b9 r with
    | nil=>exact absurd d (n9 r)
    | cons x t =>
      rw[d] at this;rw[R4 h k r x t this,jD h d]
theorem aaF(s:ao):Lib.split s [47]=b9 s:=by
 unfold Lib.split;exact XL s _ (by rw[Lib.count_one];exact bZ _)
theorem Wb(c:UInt8):aZ (u8 c) 47=decide (c=47):=BB (n:=47)
theorem afC(c:UInt8):aZ (u8 c) 0=decide (c=0):=BB (n:=0)
theorem pJ(p:ao)(a:p.length<=1048576):eV (p,())=some (parts p,()):=by
 unfold eV parts;dsimp only;by_cases h:p=[]
 .rw[cv h,ab,aV h]
 .rw[bq h,af,aX h];have:sU (p,[47],())=some (b9 p,()):=by
   show(AJ p [47]).map (λy=>(y,()))=_
   unfold AJ;simp only;rw[aV<|by omega,aaF];rfl
  rw[this,aa]
theorem gV(p:ao)(w:p.length<=1048576):dR (p,())=some (parts p,()):=by
 unfold dR parts;dsimp only;by_cases h:p=[]
 .rw[cv h,ab,aV h]
 .rw[bq h,af,aX h];have key:=oM (f:=kq (p,())) p (λ(s:ao×List ao) i=>(((),s.1,(i:Int),()),s.2,()))
   (λi s x=>some (.inl<|if x=47 then([],s.2++[s.1]) else(s.1++[x],s.2))) (λi s=>(((),s.1,(i:Int),()),s.2,())) (λi s=>s.1.length<=i/\s.2.length<=i)
   (λs i x n v q=>by
    unfold kq;dsimp only;rw[aq v,ab,ar n,aa,Wb];by_cases b:x=47
    .rw[eu b,ab,bP (by simp only[dh,eG];omega),ab,aa,aK (by omega)];simp only[aV b];rfl
    .rw[cU b,af,aK (by omega),nq (by omega) (by omega),ab,sub_one n,bP (by simp only[dh,eG];omega),ab,aa];simp only[aX b];rfl)
   (λs i x y n q d=>by
    obtain rfl:=M3 (aG d);by_cases b:x=47
    .simp only[aV b,gI,dh,eG];omega
    .simp only[aX b,gI,dh,eG];omega)
   (λs q=>by
    unfold kq;dsimp only;rw[aC,af];rfl)
   (λs i x _ _ h=>by cases h) ([],[]) ⟨bZ _,bZ _⟩
  have run:∀(r:ao) (i:Nat) (a:ao) (o:List ao),∃e c j,sF (λi (s:ao×List ao) x=>some (.inl<|if x=47 then([],s.2++[s.1]) else(s.1++[x],s.2))) (λi (s:ao×List ao)=>(((),s.1,(i:Int),()),s.2,())) r i (a,o)=some (((),e,j,()),c,()) /\
    c++[e]=o++(match b9 r with|h::t=>(a++h)::t|[]=>[a])/\c.length<=o.length+r.length:=by
   intro r;induction r with
   | nil=>intro i a o;exact⟨a,o,_,rfl,by simp[b9],by simp⟩
   | cons x r u =>
     intro i a o;by_cases b:x=47
     .obtain⟨e,c,j,g,k,l⟩:=u (i+1) [] (o++[a]);refine⟨e,c,j,?_,?_,?_⟩
      .unfold sF;simp only[aV b];exact g
      .rw[k,b9,aV b];cases d:b9 r with
       | nil=>exact absurd d (n9 r)
       | cons h t=>simp
      .simp only[gI,dh,eG] at l⊢;omega
     .obtain⟨e,c,j,g,k,l⟩:=u (i+1) (a++[x]) o;refine⟨e,c,j,?_,?_,?_⟩
      .unfold sF;simp only[aX b];exact g
      .rw[k];cases d:b9 r with
       | nil=>exact absurd d (n9 r)
       | cons h t=>rw[jD b d];simp
      .simp only[dh] at l⊢;omega
  obtain⟨e,c,j,g,k,l⟩:=run p 0 [] [];have m:Loop (kq (p,())) (((),([]:ao),(0:Int),()),([]:List ao),())=some (((),e,j,()),c,()):=key.trans g;rw[m,aa];dsimp only;simp only[eG] at l;rw[bP<|by simp only[dh,eG];omega,ab,x5,k];cases d:b9 p with
  | nil=>exact absurd d (n9 p)
  | cons h t=>simp
def aF:List ao->ao
 | []=>[]
 | [x]=>x
 | x::y::r=>x++47::aF (y::r)
theorem aaG(l:List ao):Lib.join l [47]=aF l:=by
 induction l with
 | nil=>rfl
 | cons x r a =>
   cases r with
   | nil=>simp[Lib.join_one,aF]
   | cons y r =>
     rw[aF,<-a,Lib.join_cons,Lib.join_cons];simp[Lib.joinTail]
theorem tQ(s:ao):aF (b9 s)=s:=by
 induction s with
 | nil=>rfl
 | cons b r a =>
   by_cases h:b=47
   .subst h;rw[b9,aV rfl];cases c:b9 r with
    | nil=>exact absurd c (n9 r)
    | cons x t=>rw[aF,<-c,a];rfl
   .cases c:b9 r with
    | nil=>exact absurd c (n9 r)
    | cons x t =>
      rw[jD h c];rw[c] at a;cases t with
      | nil=>rw[aF] at a⊢;rw[a]
      | cons y t=>rw[aF] at a⊢;rw[y8,a]
theorem fy(p:ao):aF (parts p)=p:=by
 unfold parts;by_cases h:p=[]
 .rw[aV h,h];rfl
 .rw[aX h,tQ]
theorem Cr(x:ao)(a:47∉x)(r:ao):b9 (x++47::r)=x::b9 r:=by
 induction x with
 | nil=>rw[sd,b9,aV rfl]
 | cons b x c =>
   simp only[gd,not_or] at a;exact jD (λe=>a.1 e.symm) (c a.2)
theorem oa(x:ao)(a:47∉x):b9 x=[x]:=by
 induction x with
 | nil=>rfl
 | cons b x c =>
   simp only[gd,not_or] at a;exact jD (λe=>a.1 e.symm) (c a.2)
theorem D1(l:List ao)(a:l≠[])(h:∀x∈l,47∉x):b9 (aF l)=l:=by
 induction l with
 | nil=>exact absurd rfl a
 | cons x r b =>
   cases r with
   | nil=>rw[aF];exact oa x (h x<|mJ ..)
   | cons y r =>
     rw[aF,Cr x (h x<|mJ ..),b (by simp) λz c=>h z (oh _ c)]
theorem UD(s:ao):∀x∈b9 s,47∉x/\x.length<=s.length:=by
 induction s with
 | nil=>intro x a;simp[b9] at a;subst a;simp
 | cons b r d =>
   intro x a;by_cases h:b=47
   .rw[b9,aV h] at a;rcases gd.1 a with rfl|a
    .simp
    .obtain⟨c,g⟩:=d x a;exact⟨c,by simp only[dh];omega⟩
   .cases f:b9 r with
    | nil=>exact absurd f (n9 r)
    | cons y t =>
      rw[jD h f] at a;rw[f] at d;rcases gd.1 a with rfl|a
      .obtain⟨c,g⟩:=d y (mJ ..);exact⟨by simp only[gd,not_or];exact⟨λe=>h e.symm,c⟩,by simp only[dh];omega⟩
      .obtain⟨c,g⟩:=d x (oh _ a);exact⟨c,by simp only[dh];omega⟩
theorem BC(s:ao):(b9 s).length<=s.length+1:=by
 induction s with
 | nil=>simp[b9]
 | cons b r c =>
   by_cases h:b=47
   .rw[b9,aV h];simp only[dh];omega
   .cases a:b9 r with
    | nil=>exact absurd a (n9 r)
    | cons y t=>rw[jD h a];rw[a] at c;simp only[dh] at c⊢;omega
theorem AZ(p:ao):∀x∈parts p,47∉x/\x.length<=p.length:=by
 unfold parts;by_cases h:p=[]
 .rw[aV h];intro x a;cases a
 .rw[aX h];exact UD p
theorem eD(p:ao):(parts p).length<=p.length+1:=by
 unfold parts;by_cases h:p=[]
 .rw[aV h];simp
 .rw[aX h];exact BC p
theorem jE(l:List ao)(h:∀x∈l,47∉x/\x≠[]):parts (aF l)=l:=by
 unfold parts;cases l with
 | nil=>rfl
 | cons x r =>
   have a:aF (x::r)≠[]:=by
    have:=(h x<|mJ ..).2;cases r with
    | nil=>rw[aF];exact this
    | cons y r=>rw[aF];simp
   rw[aX a,D1 _ (by simp) λz b=>(h z b).1]
theorem zQ(l:List ao)(s:l.length<=1048576)(k:(aF l).length<=1048576):nM (l,())=some (aF l,()):=by
 unfold nM;have pre:∀(a b:List ao),a≠[]->b≠[]->aF (a++b)=aF a++47::aF b:=by
  intro a;induction a with
  | nil=>intro b h;exact absurd rfl h
  | cons x r p =>
    intro b _ c;cases r with
    | nil =>
      cases b with
      | nil=>exact absurd rfl c
      | cons y b=>rfl
    | cons y r =>
      have:=p b (by simp) c;rw[y8,y8,aF,aF,<-y8,this];simp
 have mono:∀i,(aF<|l.take i).length<=(aF l).length:=by
  intro i;by_cases m:l.take i=[]
  .rw[m];simp[aF]
  .by_cases c:l.drop i=[]
   .rw[show l.take i=l from by have:=vV i l;rw[c,y9] at this;exact this];exact bZ _
   .have:=pre _ _ m c;rw[vV] at this;rw[this,gI];omega
 have step:∀i x,l[i]?=some x->aF (l.take<|i+1)=(if 0<i then aF (l.take i)++[47] else aF (l.take i))++x:=by
  intro i x k;have e:l.take (i+1)=l.take i++[x]:=by rw[Ba,k];rfl
  rw[e];cases i with
  | zero=>rfl
  | succ i =>
    rw[aV<|by omega,pre _ _ (by have:=aD k;intro q;have:=congrArg List.length q;rw[fT] at this;simp only[eG] at this;omega) (by simp)];simp[aF]
 have key:=cP (f:=lE (l,())) (r:=((aF l,(l.length:Int),()),())) l.length (λi=>((aF<|l.take i,(i:Int),()),())) (λi n=>by
  obtain⟨x,d⟩:∃x,l[i]?=some x:=⟨_,gH n⟩;have g:=step i x d;have c:=mono (i+1);rw[g] at c;unfold lE;dsimp only;rw[aq n,ab];by_cases o:0<i
  .rw[aV o] at g c;rw[gI,gI] at c;simp only[dh,eG] at c;rw[aJ<|by omega,ab,bP (by simp only[dh,eG];omega),ab,aa,ar d,aa];dsimp only;rw[bP<|by simp only[x5,gI,dh,eG];omega,ab,aK (by omega),g];rfl
  .rw[aX o] at g c;rw[gI] at c;rw[aA<|by omega,af,aa,ar d,aa];dsimp only;rw[bP<|by omega,ab,aK (by omega),g];rfl) (by
  unfold lE;dsimp only;rw[aC,af,wI];rfl)
 have j:Loop (lE (l,())) ((([]:ao),(0:Int),()),())=some ((aF l,(l.length:Int),()),()):=key;rw[j,aa]
def qz(s:ao):Bool:=decide (s≠[46]/\s≠[46,46]/\1<=s.length/\s.length<=32/\0∉s)
theorem BD(s:ao):decide (Lib.indexByte s 0<0)=decide (0∉s):=by
 rw[Fw];by_cases h:vI s
 .rw[eu h,eu];intro a;exact h 0 a rfl
 .rw[cU h,cU];intro a;exact h λx b e=>a (e▸b)
theorem UE(s:ao):qd (s,())=some (qz s,()):=by
 unfold qd;have one:∀i:Nat,i<2->mq (s,()) ((false,(i:Int),()),())=if bw s (if i=0 then [46] else [46,46])=true then some (.inr (1,(false,(i:Int),()),())) else some (.inl ((false,((i+1:Nat):Int),()),())):=by
  intro i h;unfold mq;dsimp only;rw[aJ<|by omega,ab,vu];rcases(by omega:i=0\/i=1) with rfl|rfl
  .rw[show([[46],[46,46]]:List ao)[0]?=some [46] from rfl,aa,sX];rfl
  .rw[show([[46],[46,46]]:List ao)[1]?=some [46,46] from rfl,aa,sX];rfl
 by_cases c:s=[46]
 .rw[aI,show((false,(0:Int),()),())=((false,((0:Nat):Int),()),()) from rfl,one 0 (by omega),aV (by rw[aV rfl];exact cv c)];subst c;rfl
 .rw[aI,show((false,(0:Int),()),())=((false,((0:Nat):Int),()),()) from rfl,one 0 (by omega),aX (by rw[aV rfl,bq c];simp)];by_cases d:s=[46,46]
  .simp only[Option.bind];rw[aI,one 1 (by omega),aV (by rw[aX<|by omega];exact cv d)];subst d;rfl
  .simp only[Option.bind];rw[aI,one 1 (by omega),aX (by rw[aX<|by omega,bq d];simp)];simp only[Option.bind];rw[aI];have e:mq (s,()) ((false,((1+1:Nat):Int),()),())=some (.inr (0,(false,(2:Int),()),())):=rfl;rw[e];simp only[Option.bind];rw[aa];dsimp only;rw[bV,ab];have el:da 1 (len s)=decide (1<=s.length):=by unfold da len;apply jV.2;omega
   have f:da (len s) 32=decide (s.length<=32):=x4 32 s;rw[el,f];have g:bT (s,0,())=some (Lib.indexByte s 0,()):=rfl;rw[g,aa];dsimp only;rw[show ba (Lib.indexByte s 0) 0=decide (0∉s) from BD s];unfold qz;by_cases a:1<=s.length
   .by_cases b:s.length<=32
    .simp[a,b,aj,ae,c,d]
    .simp[a,b,aj,ae]
   .simp[a,aj,ae]
theorem LZ(s:ao)(y:s.length<=1048576):qf (s,())=some (qz s&&decide (47∉s),()):=by
 unfold qf;have key:=oM (f:=jx (s,())) s (λ(_:ah) i=>((false,(i:Int),()),()))
  (λi _ x=>some (if x=0\/x=47 then .inr (1,(false,(i:Int),()),()) else .inl ())) (λi _=>(0,(false,(i:Int),()),())) (λ_ _=>True)
  (λu i x p t _=>by
   unfold jx;dsimp only;rw[aq t,ab,ar p,aa,afC];by_cases k:x=0
   .rw[eu k,aE,af,aa,ab,aV (.inl k)];rfl
   .rw[cU k,az,ab,aa,Wb,aa];by_cases g:x=47
    .rw[eu g,ab,aV (.inr g)];rfl
    .rw[cU g,af,aX (by simp[k,g]),aK (by omega)];rfl)
  (λ_ _ _ _ _ _ _=>trivial)
  (λu _=>by
   unfold jx;dsimp only;rw[aC,af])
  (λ_ _ _ _ _ h=>by cases h) () trivial
 have run:∀(r:ao) (i:Nat),∃q,sF (λi (_:ah) x=>some (if x=0\/x=47 then Sum.inr (1,(false,(i:Int),()),()) else Sum.inl ())) (λi _=>((0:Nat),(false,(i:Int),()),())) r i ()=some q /\
   q.1=(if 0∉r/\47∉r then 0 else 1)/\q.2.1.1=false:=by
  intro r;induction r with
  | nil=>intro i;exact⟨_,rfl,by simp,rfl⟩
  | cons x r v =>
    intro i;unfold sF;by_cases h:x=0\/x=47
    .simp only[aV h];refine⟨_,rfl,?_,rfl⟩;rw[aX];rcases h with h|h<;>simp[h]
    .simp only[aX h];obtain⟨q,g,l,m⟩:=v (i+1);refine⟨q,g,?_,m⟩;rw[l];simp only[not_or] at h;simp only[gd,not_or];have n:¬(0=x):=λe=>h.1 e.symm;have o:¬(47=x):=λe=>h.2 e.symm;simp[n,o]
 obtain⟨q,g,l,m⟩:=run s 0;have j:Loop (jx (s,())) ((false,(0:Int),()),())=some q:=key.trans g;rw[j,aa];have el:da 1 (len s)=decide (1<=s.length):=by unfold da len;apply jV.2;omega
 have w:da (len s) 32=decide (s.length<=32):=x4 32 s;rw[el,w,l,m];unfold qz;by_cases a:0∉s/\47∉s
 .rw[aV a,bV,ab];by_cases c:1<=s.length
  .by_cases d:s.length<=32
   .by_cases e:s=[46]
    .simp[e,aj,bw,nt]
    .by_cases f:s=[46,46]
     .simp[f,aj,bw,nt]
     .simp[a,c,d,e,f,aj,bw,nt]
   .simp[d,c,aj]
  .simp[c,aj]
 .rw[aX a,eC,af]
  congr 2
  by_cases b:0∈s
  .simp[b]
  .have:47∈s:=by
    have:=a;simp only[not_and,Decidable.not_not] at this;exact this b
   simp[this]
theorem NI(p:ao)(n:p.length<=1048576):uH (p,())=some ((parts p).all qz&&decide ((parts p).length<=8)&&decide (p.length<=96),()):=by
 unfold uH;dsimp only;rw[gV p n,aa];have k:=AZ p;have o:=eD p;generalize parts p=l at k o;have key:=oM (f:=oC (l,())) l (λ(_:ah) i=>((false,(i:Int),()),()))
  (λi _ x=>some (if qz x=false then .inr (1,(false,(i:Int),()),()) else .inl ())) (λi _=>(0,(false,(i:Int),()),())) (λ_ _=>True)
  (λu i x m s _=>by
   unfold oC;dsimp only;have c:=k x (eF m);rw[aq s,ab,ar m,aa,LZ x (by omega),aa];dsimp only;rw[eu c.1,Zh];cases h:qz x with
   | true=>rw[aE,af,aX (by simp),aK (by omega)];rfl
   | false=>rw[az,ab,aV rfl];rfl)
  (λ_ _ _ _ _ _ _=>trivial)
  (λu _=>by
   unfold oC;dsimp only;rw[aC,af])
  (λ_ _ _ _ _ h=>by cases h) () trivial
 have run:∀(r:List ao) (i:Nat),∃q,sF (λi (_:ah) x=>some (if qz x=false then Sum.inr (1,(false,(i:Int),()),()) else Sum.inl ())) (λi _=>((0:Nat),(false,(i:Int),()),())) r i ()=some q /\
   q.1=(if r.all qz=true then 0 else 1)/\q.2.1.1=false:=by
  intro r;induction r with
  | nil=>intro i;exact⟨_,rfl,rfl,rfl⟩
  | cons x r t =>
    intro i;unfold sF;cases h:qz x with
    | false=>exact⟨_,rfl,by simp[h],rfl⟩
    | true =>
      obtain⟨q,d,e,g⟩:=t (i+1);exact⟨q,d,by rw[e];simp[h],g⟩
 obtain⟨q,d,e,g⟩:=run l 0;have b:Loop (oC (l,())) ((false,(0:Int),()),())=some q:=key.trans d;rw[b,aa,e,g];have v:da (len l) 8=decide (l.length<=8):=x4 8 l;have j:da (len p) 96=decide (p.length<=96):=x4 96 p;rw[v,j];cases h:l.all qz with
 | true =>
   rw[aV rfl,bV,ab];by_cases a:l.length<=8<;>simp[a,aj]
 | false=>rw[aX<|by simp,eC,af];simp
def my(x:ao):Bool:=decide (x≠[]/\x≠[46])
def names(s:ao):List ao:=(parts s).filter my
def lp(s:ao):Bool:=(names s).all qz&&decide (s.head?≠some 47)&&decide ((names s).length<=8)&&decide ((aF<|names s).length<=96)
def kD(s:ao):ao×Int:=if lp s then(aF<|names s,0) else([],2)
theorem ua(s:ao):∀x∈names s,47∉x/\x≠[]/\x.length<=s.length:=by
 intro x b;obtain⟨c,a⟩:=vX.1 b;obtain⟨d,e⟩:=AZ s x c;simp only[my,nE] at a;exact⟨d,a.1,e⟩
theorem D2(s:ao):(names s).length<=s.length+1:=fM (MN _ _) (eD s)
theorem Gt(s:ao):parts (aF<|names s)=names s:=jE _ λx a=>⟨(ua s x a).1,(ua s x a).2.1⟩
theorem uS(s:ao):(aF<|names s).length<=s.length:=by
 have gen:∀(l:List ao),(aF<|l.filter my).length<=(aF l).length:=by
  intro l;induction l with
  | nil=>simp[aF]
  | cons x r a =>
    by_cases b:my x=true
    .rw[YR b];cases c:r.filter my with
     | nil =>
       cases r with
       | nil=>exact bZ _
       | cons y r=>simp only[aF,gI,dh];omega
     | cons y q =>
       rw[c] at a;cases r with
       | nil=>simp at c
       | cons z r=>simp only[aF,gI,dh] at a⊢;omega
    .rw[YS b];cases r with
     | nil=>simp[aF]
     | cons z r=>rw[aF];simp only[gI,dh];omega
 have:=gen (parts s);rw[fy] at this;exact this
theorem R5(s:ao):ed (s,[47],())=some (decide<|s.head?=some 47,()):=by
 unfold ed bH;dsimp only;cases s with
 | nil=>rfl
 | cons b r =>
   have e:da (len [(47:UInt8)]) (len (b::r))=true:=dc (by simp only[len,dh,eG];omega);have a:inside 0 (len [(47:UInt8)]) (len (b::r))=true:=aP (by decide) (by decide) (by simp only[len,dh,eG];omega);rw[e,ab,a,ab,AQ,aa,aa];simp[bw]
theorem NJ(s:ao)(B:s.length<=4096):oB (s,())=some ((kD s).1,(kD s).2,()):=by
 unfold oB;dsimp only;rw[pJ s<|by omega,aa];have C:=AZ s;have D:=eD s;have key:=oM (f:=kp (parts s,())) (parts s) (λ(o:List ao) i=>((([]:ao),(0:Int),(),(i:Int),()),o,()))
  (λi o x=>some (if my x=false then .inl o else if qz x=false then .inr (1,(([]:ao),(2:Int),(),(i:Int),()),o,()) else .inl (o++[x]))) (λi o=>(0,(([]:ao),(0:Int),(),(i:Int),()),o,())) (λi o=>o.length<=i)
  (λo i x j u v=>by
   unfold kp;dsimp only;rw[aq u,ab,ar j,aa];have g:my x=(nt (bw x [])&&nt (bw x [46])):=by simp[my,bw,nt]
   by_cases a:x=[]
   .rw[cv a,aE,af,ab,aa];dsimp only;rw[bV,ab,aK (by omega),aV (by rw[g,cv a];rfl)];rfl
   .by_cases b:x=[46]
    .rw[bq a,az,ab,cv b,ab,aa];dsimp only;rw[bV,ab,aK (by omega),aV (by rw[g,cv b];simp[nt])];rfl
    .rw[bq a,az,ab,bq b,af,UE,aa];dsimp only;have k:my x=true:=by rw[g,bq a,bq b];rfl
     cases h:qz x with
     | false =>
       rw[az,ab,aa];dsimp only;rw[eC,af,aX (by rw[k];simp),aV rfl];rfl
     | true =>
       rw[aE,af,bP (by simp only[dh,eG];omega),ab,aa];dsimp only;rw[bV,ab,aK (by omega),aX (by rw[k];simp),aX (by simp)];rfl)
  (λo i x E j v e=>by
   have e:=aG e;by_cases a:my x=false
   .rw[aV a] at e;obtain rfl:=M3 e;omega
   .rw[aX a] at e;by_cases b:qz x=false
    .rw[aV b] at e;cases e
    .rw[aX b] at e;obtain rfl:=M3 e;simp only[gI,dh,eG];omega)
  (λo _=>by
   unfold kp;dsimp only;rw[aC,af])
  (λ_ _ _ _ _ h=>by cases h) [] (bZ _)
 have run:∀(r:List ao) (i:Nat) (o:List ao),∃q,sF (λi (o:List ao) x=>some (if my x=false then Sum.inl o else if qz x=false then Sum.inr (1,(([]:ao),(2:Int),(),(i:Int),()),o,()) else Sum.inl (o++[x]))) (λi o=>((0:Nat),(([]:ao),(0:Int),(),(i:Int),()),o,())) r i o=some q /\
   (if(r.filter my).all qz=true then q.1=0/\q.2.2.1=o++r.filter my else q.1=1/\q.2.1.1=[]/\q.2.1.2.1=2):=by
  intro r;induction r with
  | nil=>intro i o;exact⟨_,rfl,by simp⟩
  | cons x r p =>
    intro i o;unfold sF;cases g:my x with
    | false =>
      obtain⟨q,l,d⟩:=p (i+1) o;refine⟨q,l,?_⟩;rw[YS<|by simp[g]];exact d
    | true =>
      rw[YR g];cases j:qz x with
      | false=>exact⟨_,rfl,by simp[j]⟩
      | true =>
        obtain⟨q,l,d⟩:=p (i+1) (o++[x]);refine⟨q,l,?_⟩;simp only[MX,j,Qw];rw[kP] at d;exact d
 obtain⟨q,l,d⟩:=run (parts s) 0 [];have m:Loop (kp (parts s,())) ((([]:ao),(0:Int),(),(0:Int),()),([]:List ao),())=some q:=key.trans l;rw[m,aa];rw[show(parts s).filter my=names s from rfl,sd] at d;have F:=uS s;have w:=D2 s;unfold kD lp;cases t:(names s).all qz with
 | false =>
   rw[t,aX (by simp)] at d;rw[d.1,eC,af,d.2.1,d.2.2];rfl
 | true =>
   rw[t,aV rfl] at d;rw[d.1,bV,ab,d.2];have z:uD (names s,[47],())=some (aF<|names s,()):=by
    show(Fb (names s) [47]).map (λy=>(y,()))=_
    unfold Fb;rw[aaG,aV ⟨by omega,by omega⟩];rfl
   rw[z,aa,R5,aa];dsimp only;have A:ba 8 (len<|names s)=!decide ((names s).length<=8):=by
    by_cases h:(names s).length<=8
    .rw[aA<|by simp only[len];omega];simp[h]
    .rw[aJ<|by simp only[len];omega];simp[h]
   have n:ba 96 (len<|aF<|names s)=!decide ((aF<|names s).length<=96):=by
    by_cases h:(aF<|names s).length<=96
    .rw[aA<|by simp only[len];omega];simp[h]
    .rw[aJ<|by simp only[len];omega];simp[h]
   rw[A,n];by_cases a:s.head?=some 47
   .simp[a,aj,nt]
   .by_cases b:(names s).length<=8
    .by_cases c:(aF<|names s).length<=96<;>simp[a,b,c,aj,nt]
    .simp[a,b,aj,nt]
theorem PG(s:ao)(u:s.length<=4096):rL (s,())=some ((kD s).1,(kD s).2,()):=by
 unfold rL;dsimp only;rw[gV s<|by omega,aa];have v:=AZ s;have w:=eD s;have key:=oM (f:=kr (parts s,())) (parts s) (λ(o:List ao) i=>(((),(i:Int),()),o,()))
  (λi o x=>some (.inl<|if my x=true then o++[x] else o)) (λi o=>(((),(i:Int),()),o,())) (λi o=>o.length<=i)
  (λo i x g l m=>by
   unfold kr;dsimp only;rw[aq l,ab,ar g,aa,aa];have d:my x=(nt (bw x [])&&nt (bw x [46])):=by simp[my,bw,nt]
   by_cases a:x=[]
   .rw[cv a,aE,af,aa,af,aa,aK (by omega),aX (by rw[d,cv a];simp[nt])];rfl
   .by_cases b:x=[46]
    .rw[bq a,az,ab,cv b,aE,aa,af,aa,aK (by omega),aX (by rw[d,cv b];simp[nt])];rfl
    .rw[bq a,az,ab,bq b,az,aa,ab,aa,bP (by simp only[dh,eG];omega),ab,aa,aK (by omega),aV (by rw[d,bq a,bq b];rfl)];rfl)
  (λo i x y g m n=>by
   obtain rfl:=M3 (aG n);by_cases a:my x=true
   .rw[aV a];simp only[gI,dh,eG];omega
   .rw[aX a];omega)
  (λo _=>by
   unfold kr;dsimp only;rw[aC,af];rfl)
  (λ_ _ _ _ _ h=>by cases h) [] (bZ _)
 have run:∀(r:List ao) (i:Nat) (o:List ao),∃j,sF (λi (o:List ao) x=>some (Sum.inl<|if my x=true then o++[x] else o)) (λi o=>(((),(i:Int),()),o,())) r i o=some (((),j,()),o++r.filter my,()):=by
  intro r;induction r with
  | nil=>intro i o;exact⟨(i:Int),by simp[sF]⟩
  | cons x r k =>
    intro i o;unfold sF;by_cases d:my x=true
    .simp only[aV d];obtain⟨j,h⟩:=k (i+1) (o++[x]);exact⟨j,by rw[h,YR d];simp⟩
    .simp only[aX d];obtain⟨j,h⟩:=k (i+1) o;exact⟨j,by rw[h,YS d]⟩
 obtain⟨j,p⟩:=run (parts s) 0 [];have e:Loop (kr (parts s,())) (((),(0:Int),()),([]:List ao),())=some (((),j,()),names s,()):=by
  have:=key.trans p;rw[sd] at this;exact this
 have z:=uS s;have q:=D2 s;rw[e,aa];dsimp only;rw[zQ _ (by omega)<|by omega,aa];have e0:ae (aj (nt<|bw s []) (ae (idx s 0) λt=>some (aZ (u8 t) 47))<|some false)=λ(f:Bool->Option (ao×Int×ah))=>f (decide<|s.head?=some 47):=by
  funext f;cases s with
  | nil=>rfl
  | cons b r =>
    rw[bq<|by simp,az,ab,show idx (b::r) 0=some b from rfl,aa,Wb,aa]
    congr 1
    simp
 rw[e0];dsimp only;rw[NI _<|by omega,aa,Gt];unfold kD lp;dsimp only;by_cases a:s.head?=some 47
 .simp[a,aj,nt,ae]
 .cases A:(names s).all qz with
  | false=>simp[a,aj,nt,ae]
  | true =>
    by_cases b:(names s).length<=8
    .by_cases c:(aF<|names s).length<=96<;>simp[a,b,c,aj,nt,ae]
    .simp[a,b,aj,nt,ae]
def yT(p:ao):Nat->Option Nat
 | 0=>none
 | n+1=>if p[n]?=some 47 then some n else yT p n
theorem PH(p:ao)(g:p.length<=1048576):cF (p,47,())=some (match yT p p.length with|some k=>(k:Int)|none=>-1,()):=by
 unfold cF;dsimp only;have run:∀n,n<=p.length->∃q,Loop (cq (p,47,())) ((0,((n:Int)-1),()),())=some q/\(match yT p n with|some k=>q.1=1/\q.2.1.1=(k:Int)|none=>q.1=0):=by
  intro n;induction n with
  | zero =>
    intro _;refine⟨(0,(0,-1,()),()),?_,rfl⟩;rw[aI];rfl
  | succ n d =>
    intro i;obtain⟨y,b⟩:∃y,p[n]?=some y:=⟨_,gH (by omega)⟩;have e:((n+1:Nat):Int)-1=(n:Int):=by omega
    rw[e,aI];have st:cq (p,47,()) ((0,(n:Int),()),())=if y=47 then some (.inr (1,((n:Int),(n:Int),()),())) else some (.inl ((0,(n:Int)-1,()),())):=by
     unfold cq;dsimp only;rw[dc<|by omega,ab,ar b,aa,Wb,dx (by omega) (by omega),JU]
    rw[st,yT,b];by_cases h:y=47
    .rw[aV h,aV (by rw[h])];exact⟨_,rfl,rfl,rfl⟩
    .rw[aX h,aX λq=>h (aG q)];exact d (by omega)
 obtain⟨q,f,a⟩:=run p.length (bZ _);have e:cd .i64 (len p) 1=(p.length:Int)-1:=by rw[br,dx (by omega) (by omega)]
 rw[e,f,aa];cases c:yT p p.length with
 | none=>rw[c] at a;rw[a,bV,ab]
 | some k=>rw[c] at a;rw[a.1,a.2,eC,af]
theorem J0:∀{p:ao} {n k:Nat},yT p n=some k->k<n/\p[k]?=some 47/\∀j,k<j->j<n->p[j]?≠some 47:=by
 intro p n;induction n with
 | zero=>intro k h;cases h
 | succ n c =>
   intro k h;rw[yT] at h;split at h
   .rename_i a;obtain rfl:=aG h;exact⟨Qq _,a,λj d b=>by omega⟩
   .rename_i a;obtain⟨d,b,f⟩:=c h;refine⟨by omega,b,λj g i=>?_⟩;by_cases e:j=n
    .rw[e];exact a
    .exact f j g (by omega)
theorem UF:∀{p:ao} {n:Nat},yT p n=none->∀j,j<n->p[j]?≠some 47:=by
 intro p n;induction n with
 | zero=>intro _ j h;omega
 | succ n a =>
   intro h j c;rw[yT] at h;split at h
   .cases h
   .rename_i b;by_cases e:j=n
    .rw[e];exact b
    .exact a h j (by omega)
def bc(p:ao):ao×ao:=match yT p p.length with|some k=>(p.take k,p.drop (k+1))|none=>([],p)
theorem pK(p:ao):(47∉p/\bc p=([],p))\/∃a b,p=a++47::b/\47∉b/\bc p=(a,b):=by
 unfold bc;cases h:yT p p.length with
 | none =>
   refine .inl ⟨λd=>?_,rfl⟩;obtain⟨j,c,e⟩:=MO d;exact UF h j c (by rw[gH c,e])
 | some k =>
   obtain⟨l,f,g⟩:=J0 h;refine .inr ⟨p.take k,p.drop (k+1),?_,λd=>?_,rfl⟩
   .obtain⟨i,e⟩:=fU.1 f;rw[<-e,<-y7 i,vV]
   .obtain⟨j,c,e⟩:=MO d;rw[j8] at c;rw[List.getElem_drop] at e;exact g (k+1+j) (by omega) (by omega) (by rw[gH<|by omega,e])
theorem pt(p:ao)(a:p.length<=1048576):fP (p,())=some ((bc p).1,(bc p).2,()):=by
 unfold fP oi;dsimp only;rw[show aZ (len [(47:UInt8)]) 0=false from rfl,af,show aZ (len [(47:UInt8)]) 1=true from rfl,ab,show idx [(47:UInt8)] 0=some 47 from rfl,aa];rw[show u8 47=47 from rfl,PH p a,aa,aa];unfold bc;cases h:yT p p.length with
 | none=>rw[aJ<|by decide,ab]
 | some k =>
   obtain⟨b,_,_⟩:=J0 h;dsimp only;rw[aA<|by omega,af,show inside 0 (k:Int) (len p)=true from aP (by omega) (by omega) (by rw[br];omega),ab,aK (by omega),aP (by omega) (by rw[br];omega) (qJ _),ab,iC,oN p (k+1) (by omega)]
theorem zR(a b:ao)(g:47∉b):b9 (a++47::b)=b9 a++[b]:=by
 induction a with
 | nil =>
   have e:b9 (47::b)=[]::b9 b:=by rw[b9,aV rfl]
   rw[sd,e,oa b g];rfl
 | cons c a d =>
   rw[y8];by_cases h:c=47
   .rw[b9,aV h,d]
    conv=>rhs;rw[b9,aV h]
    rfl
   .cases f:b9 a with
    | nil=>exact absurd f (n9 a)
    | cons x t =>
      rw[f] at d;rw[jD h f,jD h (by rw[d];rfl)];rfl
theorem tR(p:ao)(h:p.length<=4096):jP (p,())=some ((bc p).1,(bc p).2,()):=by
 unfold jP;dsimp only;rw[gV p<|by omega,aa];by_cases i:p=[]
 .subst i;rfl
 have c:parts p=b9 p:=by unfold parts;rw[aX i]
 rcases pK p with ⟨d,f⟩|⟨a,b,rfl,d,f⟩
 .rw[f,c,oa p d];dsimp only;have g:nM (sub [p] 0<|minus (cd .i64 (len [p]) 1) 0,())=some ([],()):=by
   have e:sub [p] 0 (minus (cd .i64 (len [p]) 1) 0)=[]:=rfl;rw[e];exact zQ [] (by simp) (by simp[aF])
  rw[show aZ (len [p]) 0=false from rfl,af,show inside 0 (cd .i64 (len [p]) 1) (len [p])=true from rfl,ab,g,aa];rfl
 .rw[f,c,zR a b d];dsimp only;have j:=BC a;rw[gI] at h;simp only[dh] at h;have g:cd .i64 (len<|b9 a++[b]) 1=(((b9 a).length:Nat):Int):=by
   rw[br,gI,dx (by simp only[dh,eG];omega) (by simp only[dh,eG];omega)];simp only[dh,eG];omega
  rw[g,aN (by rw[br,gI];simp only[dh,eG];omega),af,aP (by omega) (by omega) (by rw[br,gI];omega),ab,iC,Iw,
   zQ _ (by omega) (by rw[tQ];omega),tQ,aa,vu]
  simp[ae]
def oP(d n:ao):ao:=if d=[]\/n=[] then d++n else d++47::n
theorem Fx(d n:ao)(c:d.length<=1048576)(e:n.length<=1048576):nN (d,n,())=some (oP d n,()):=by
 unfold nN oP;dsimp only;by_cases a:d=[]
 .rw[cv a,aE,af,ab,bP (by omega),ab,aV (.inl a)];rfl
 .rw[bq a,az,ab];by_cases b:n=[]
  .rw[cv b,ab,bP (by omega),ab,aV (.inr b)];rfl
  .rw[bq b,af,bP (by simp only[dh,eG];omega),ab,bP (by simp only[x5,gI,dh,eG];omega),ab,aX (by simp[a,b])];simp[app]
theorem x8(d n:ao)(c:d.length<=1048576)(e:n.length<=1048576):nO (d,n,())=some (oP d n,()):=by
 unfold nO oP;dsimp only;by_cases a:d=[]
 .rw[cv a,ab,aV (.inl a),a];rfl
 .rw[bq a,af];by_cases b:n=[]
  .rw[cv b,ab,aV (.inr b),b,y9]
  .rw[bq b,af,bP (by simp only[dh,eG];omega),ab,bP (by simp only[x5,gI,dh,eG];omega),ab,aX (by simp[a,b])];simp[app]
def ca(x y:List ao):Bool:=decide (y.length<x.length/\x.take y.length=y)
theorem NK{b:Type}[DecidableEq b](Q:Nat->Nat->Nat×(Bool×Int×ah)×ah)(a:∀i j,(Q i j).1=j/\(Q i j).2.1.1=false):∀(r:List (b×b)) (i:Nat),∃q,sF (λi (_:ah) p=>some (if p.1=p.2 then Sum.inl () else Sum.inr (Q i 1))) (λi _=>Q i 0) r i ()=some q /\
  q.1=(if r.all (λp=>decide (p.1=p.2))=true then 0 else 1)/\q.2.1.1=false:=by
 intro r;induction r with
 | nil=>intro i;exact⟨_,rfl,(a _ _).1,(a _ _).2⟩
 | cons p r c =>
   intro i;unfold sF;by_cases h:p.1=p.2
   .simp only[aV h];obtain⟨q,d,e,f⟩:=c (i+1);exact⟨q,d,by rw[e,MX,eu h,Qw],f⟩
   .simp only[aX h];exact⟨_,rfl,by rw[(a _ _).1,MX,cU h,Ze,aX (by simp)],(a _ _).2⟩
theorem NL(x y:List ao)(m:x.length<=1048576)(n:y.length<=1048576):bt (x,y,())=some (decide<|x=y,()):=by
 unfold bt;dsimp only;rw[RL];by_cases a:x.length=y.length
 .rw[eu a,aE,af];have key:=oM (f:=cH (x,y,())) (x.zip y) (λ(_:ah) i=>((false,(i:Int),()),()))
   (λi _ p=>some (if p.1=p.2 then .inl () else .inr (1,(false,(i:Int),()),()))) (λi _=>(0,(false,(i:Int),()),())) (λ_ _=>True)
   (λu i p g o _=>by
    obtain⟨b,d⟩:=aap g;have k:=aD b;unfold cH;dsimp only;rw[aq<|aD b,ab,ar b,aa,ar d,aa];by_cases e:p.1=p.2
    .rw[cv e,aE,af,aK (by omega),aV e];rfl
    .rw[bq e,az,ab,aX e];rfl)
   (λ_ _ _ _ _ _ _=>trivial)
   (λu _=>by
    have e:(x.zip y).length=x.length:=by rw[List.length_zip,a,Zk]
    unfold cH;dsimp only;rw[e,aC,af])
   (λ_ _ _ _ _ h=>by cases h) () trivial
  obtain⟨q,b,d,l⟩:=NK (λi j=>(j,(false,(i:Int),()),())) (λ_ _=>⟨rfl,rfl⟩) (x.zip y) 0;have c:Loop (cH (x,y,())) ((false,(0:Int),()),())=some q:=key.trans b;rw[c,aa,d,l,Pz a];by_cases e:x=y
  .rw[eu e,aV rfl,bV,ab]
  .rw[cU e,aX (by simp),eC,af]
 .rw[cU a,az,ab,cU λe=>a (by rw[e])]
theorem xr(p d:ao)(a:p.length<=4096)(b:d.length<=4096):cW (p,d,())=some (ca (parts p)<|parts d,()):=by
 unfold cW ca;dsimp only;have c:=eD p;have e:=eD d;rw[pJ p<|by omega,aa,pJ d (by omega),aa];dsimp only;rw[DQ];by_cases h:(parts d).length<(parts p).length
 .rw[eu h,ab,show inside 0 (len<|parts d) (len<|parts p)=true from aP (by decide) (by rw[br];omega) (by rw[br,br];omega),ab,AQ,NL _ _ (by rw[fT];omega) (by omega),aa,aa];simp[h]
 .rw[cU h,af,aa];simp[h]
theorem PI(p d:ao)(k:p.length<=4096)(r:d.length<=4096):rM (p,d,())=some (ca (parts p)<|parts d,()):=by
 unfold rM ca;dsimp only;have b:=eD p;have g:=eD d;rw[gV p<|by omega,aa,gV d (by omega),aa];dsimp only;rw[JT];generalize parts p=x at b;generalize parts d=y at g;by_cases h:y.length<x.length
 .rw[cU<|by omega,af];have e:(x.zip y).length=y.length:=by rw[List.length_zip];omega
  have key:=oM (f:=ks (x,()) (y,())) (x.zip y) (λ(_:ah) i=>((false,(i:Int),()),()))
   (λi _ p=>some (if p.1=p.2 then .inl () else .inr (1,(false,(i:Int),()),()))) (λi _=>(0,(false,(i:Int),()),())) (λ_ _=>True)
   (λu i p k s _=>by
    obtain⟨b,g⟩:=aap k;have l:=aD b;unfold ks;dsimp only;rw[aq<|aD b,aq (aD g),ab,ab,ar b,aa,ar g,aa];by_cases e:p.1=p.2
    .rw[cv e,aE,af,aK (by omega),aV e];rfl
    .rw[bq e,az,ab,aX e];rfl)
   (λ_ _ _ _ _ _ _=>trivial)
   (λu _=>by
    unfold ks;dsimp only;rw[e,aC,af,af])
   (λ_ _ _ _ _ h=>by cases h) () trivial
  obtain⟨q,m,n,o⟩:=NK (λi j=>(j,(false,(i:Int),()),())) (λ_ _=>⟨rfl,rfl⟩) (x.zip y) 0;have c:Loop (ks (x,()) (y,())) ((false,(0:Int),()),())=some q:=key.trans m;rw[c,aa,n,o,RN,show min x.length y.length=y.length by omega,wI];by_cases a:x.take y.length=y
  .rw[eu a,aV rfl,bV,ab];simp[h,a]
  .rw[cU a,aX (by simp),eC,af];simp[a]
 .rw[eu<|by omega,ab];simp[h]
theorem NM(x:ao):iu (x,())=some (false,()):=by
 unfold iu;rw[jo];rfl
theorem aaH(x y:ao):jw (x,y,())=some (Py x y,()):=by
 unfold jw Py;dsimp only;rw[NM,aa,NM,aa];dsimp only;rw[af,af,Ur];rcases AU x y with h|rfl|h
 .rw[h,ab,aV rfl]
 .rw[jS,af,af,aX (by simp),aV rfl]
 .rw[pI h,af,h,ab,aX (by simp),aX λe=>JW h e.symm]
theorem Gu(a b:ao)(G:a.length<=4096)(H:b.length<=4096):lD (a,b,())=some (cmpL (parts a)<|parts b,()):=by
 unfold lD;dsimp only;have z:=eD a;have A:=eD b;rw[pJ a<|by omega,aa,pJ b (by omega),aa];generalize parts a=x at z;generalize parts b=y at A;have run:∀(n i:Nat),x.length-i<=n->i<=x.length->i<=y.length->x.take i=y.take i->∃q,Loop (dn (x,()) (y,())) ((0,(i:Int),()),())=some q /\
   (if q.1=0 then x.length<=y.length/\cmpL (x.drop i) (y.drop i)=(if x.length<y.length then -1 else 0) else q.1=1/\q.2.1.1=cmpL (x.drop i) (y.drop i)):=by
  intro n;induction n with
  | zero =>
    intro i B p f g;obtain rfl:i=x.length:=by omega
    refine⟨(0,(0,(x.length:Int),()),()),?_,?_⟩
    .rw[aI];have:dn (x,()) (y,()) ((0,(x.length:Int),()),())=some (.inr (0,(0,(x.length:Int),()),())):=by
      unfold dn;dsimp only;rw[aC,af]
     rw[this];rfl
    .rw[aV rfl];refine⟨f,?_⟩;rw[Iv];by_cases h:x.length<y.length
     .rw[aV h];cases hd:y.drop x.length with
      | nil=>have:=congrArg List.length hd;rw[j8] at this;simp only[eG] at this;omega
      | cons b r=>rfl
     .rw[aX h,GL (by omega)];rfl
  | succ n s =>
    intro i B p f g;by_cases hi:i<x.length
    .obtain⟨u,d⟩:∃u,x[i]?=some u:=⟨_,gH hi⟩;obtain⟨C,j⟩:=fU.1 d;have t:x.drop i=u::x.drop (i+1):=by rw[y7 hi,j]
     rw[aI];by_cases w:i<y.length
     .obtain⟨v,k⟩:∃v,y[i]?=some v:=⟨_,gH w⟩;obtain⟨D,m⟩:=fU.1 k;have E:y.drop i=v::y.drop (i+1):=by rw[y7 w,m]
      have st:dn (x,()) (y,()) ((0,(i:Int),()),())=if u=v then some (.inl ((0,((i+1:Nat):Int),()),())) else some (.inr (1,(Py u v,(i:Int),()),())):=by
       unfold dn;dsimp only;rw[aq hi,ab,ar d,aa,x4,cU (by omega),af,ar k,aa,aaH,aa];dsimp only;by_cases e:u=v
       .rw[aV e,show Py u v=0 by unfold Py;rw[e,jS,aX (by simp),aV rfl],show nt (aZ 0 0)=false from rfl,af,aK (by omega)]
       .rw[aX e,show aZ (Py u v) 0=false from aN (by unfold Py;split<;>(try split)<;>first|decide|exact absurd (by assumption) e),az,ab]
      rw[st,t,E,cmpL];by_cases e:u=v
      .rw[aV e,aV e];exact s (i+1) (by omega) (by omega) (by omega) (by rw[Ba,Ba,d,k,g,e])
      .rw[aX e,aX e];refine⟨_,rfl,?_⟩;rw[aX<|by simp];refine⟨rfl,?_⟩;show Py u v=_
       unfold Py;rw[aX e]
     .have st:dn (x,()) (y,()) ((0,(i:Int),()),())=some (.inr (1,(1,(i:Int),()),())):=by
       unfold dn;dsimp only;rw[aq hi,ab,ar d,aa,x4,eu (by omega),ab]
      rw[st];refine⟨_,rfl,?_⟩;rw[aX<|by simp,t,show y.drop i=[] from GL (by omega)];exact⟨rfl,rfl⟩
    .exact s i (by omega) p f g
 obtain⟨q,F,c⟩:=run x.length 0 (by omega) (by omega) (by omega) rfl;have o:Loop (dn (x,()) (y,())) ((0,(0:Int),()),())=some q:=F;rw[o,aa];rw[wK,wK] at c;by_cases h:q.1=0
 .rw[aV h] at c;rw[h,bV,ab,DQ,c.2];by_cases l:x.length<y.length
  .rw[eu l,ab,aV l]
  .rw[cU l,af,aX l]
 .rw[aX h] at c;rw[c.1,eC,af,c.2]
theorem zS(a b:ao)(G:a.length<=4096)(H:b.length<=4096):lF (a,b,())=some (cmpL (parts a)<|parts b,()):=by
 unfold lF;dsimp only;have z:=eD a;have A:=eD b;rw[gV a<|by omega,aa,gV b (by omega),aa];generalize parts a=x at z;generalize parts b=y at A;have run:∀(n i:Nat),x.length-i<=n->i<=x.length->i<=y.length->∃q,Loop (dq (x,()) (y,())) ((0,(i:Int),()),())=some q /\
   (if q.1=0 then cmpL (x.drop i) (y.drop i)=(if x.length<y.length then -1 else if y.length<x.length then 1 else 0) else q.1=1/\q.2.1.1=cmpL (x.drop i) (y.drop i)):=by
  intro n;induction n with
  | zero =>
    intro i B k o;obtain rfl:i=x.length:=by omega
    refine⟨(0,(0,(x.length:Int),()),()),?_,?_⟩
    .rw[aI];have:dq (x,()) (y,()) ((0,(x.length:Int),()),())=some (.inr (0,(0,(x.length:Int),()),())):=by
      unfold dq;dsimp only;rw[aC,af,af]
     rw[this];rfl
    .rw[aV rfl,Iv];by_cases h:x.length<y.length
     .rw[aV h];cases hd:y.drop x.length with
      | nil=>have:=congrArg List.length hd;rw[j8] at this;simp only[eG] at this;omega
      | cons b r=>rfl
     .rw[aX h,GL (by omega),aX (by omega)];rfl
  | succ n p =>
    intro i B k o;by_cases hi:i<x.length
    .obtain⟨u,s⟩:∃u,x[i]?=some u:=⟨_,gH hi⟩;obtain⟨C,f⟩:=fU.1 s;have t:x.drop i=u::x.drop (i+1):=by rw[y7 hi,f]
     rw[aI];by_cases d:i<y.length
     .obtain⟨v,w⟩:∃v,y[i]?=some v:=⟨_,gH d⟩;obtain⟨D,g⟩:=fU.1 w;have E:y.drop i=v::y.drop (i+1):=by rw[y7 d,g]
      have st:dq (x,()) (y,()) ((0,(i:Int),()),())=if u=v then some (.inl ((0,((i+1:Nat):Int),()),())) else some (.inr (1,(if gf u v=true then -1 else 1,((i:Int),())),())):=by
       unfold dq;dsimp only;rw[aq hi,aq d,ab,ab,ar s,aa,ar w,aa,aa,aa,Ur];rcases AU u v with h|rfl|h
       .rw[h,ab,aX (JW h),aV rfl]
       .rw[jS,af,af,aV rfl,aK (by omega)]
       .rw[pI h,af,h,ab,aX (λe=>JW h e.symm),aX (by simp)]
      rw[st,t,E,cmpL];by_cases e:u=v
      .rw[aV e,aV e];exact p (i+1) (by omega) (by omega) (by omega)
      .rw[aX e,aX e];refine⟨_,rfl,?_⟩;rw[aX<|by simp];exact⟨rfl,rfl⟩
     .have st:dq (x,()) (y,()) ((0,(i:Int),()),())=some (.inr (0,(0,(i:Int),()),())):=by
       unfold dq;dsimp only;rw[aq hi,H9,cU d,ab,af]
      rw[st];refine⟨_,rfl,?_⟩;rw[aV rfl,t,show y.drop i=[] from GL (by omega),aX (by omega),aV (by omega)];rfl
    .exact p i (by omega) k o
 obtain⟨q,F,c⟩:=run x.length 0 (by omega) (by omega) (by omega);have j:Loop (dq (x,()) (y,())) ((0,(0:Int),()),())=some q:=F;rw[j,aa];rw[wK,wK] at c;by_cases h:q.1=0
 .rw[aV h] at c;rw[h,bV,ab,DQ,DQ,c];by_cases l:x.length<y.length
  .rw[eu l,ab,aV l]
  .rw[cU l,af,aX l];by_cases m:y.length<x.length
   .rw[eu m,ab,aV m]
   .rw[cU m,af,aX m]
 .rw[aX h] at c;rw[c.1,eC,af,c.2]
end Go.Ge
