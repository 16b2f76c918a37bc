import Derived.Test.YtcebnmppipejfaaGreatDoorPlA
set_option linter.unusedSectionVars false
set_option linter.unusedVariables false
set_option linter.unusedSimpArgs false
open Go.IntKind (i64)
namespace Go.Ge
variable [Lp]
set_option maxRecDepth 100000
def allowed:Tx:=[97,98,99,100,101,102,103,104,105,106,107,108,109,110,111,112,113,114,115,116,117,118,119,120,121,122,48,49,50,51,52,53,54,55,56,57,46,95,45]
def ZP(c:UInt8):Bool:=allowed.contains c
def vB(s:Tx):Bool:=decide (1<=s.length)&&decide (s.length<=32)&&s.all ZP
def T3(a:Tx)(b:List Bool):List Bool:=(a.zipIdx).foldl (λt p=>jF t (u8 p.1) true) b
def yu:List Bool:=List.replicate 256 false
theorem ahQ(c:UInt8):u8 c<256:=by unfold u8;have:=c.toNat_lt;omega
theorem ahR(c:UInt8):0<=u8 c:=by unfold u8;omega
theorem PI(c:UInt8):within (u8 c) 256=true:=br (ahR c) (ahQ c)
theorem acJ{t:List Bool}(h:t.length=256)(c:UInt8):idx t (u8 c)=some (t.getD c.toNat false):=lW t false (k:=c.toNat) rfl (by have:=c.toNat_lt;omega)
theorem NV(a:Tx)(k:a.length<=4294967296)(l:∀c∈a,c<128):dh (a,())=some (T3 a yu,true,()):=by
 unfold dh;obtain⟨t,p,m,n⟩:=PF (f:=bL (a,())) a (λ(t:List Bool) i=>((false,i,()),t,())) (λt i x=>jF t (u8 x) true) (λt=>(0,(false,len a,()),t,())) (λt _=>t.length=256) k
  (λt i x j o b e=>by
   refine⟨?_,by simp[jF,e]⟩;unfold bL;dsimp only;have g:x<128:=l x (bR.2 ⟨i,j⟩);have d:u8 x<128:=by unfold u8;have:x.toNat<128:=g;omega
   rw[au o,ae,az j,aa,eu d,af,PI,ae,acJ e,aa,aa,aa,b])
  (λt e=>by unfold bL;dsimp only;rw[aB,af];rfl) yu (by simp[yu])
 have h:Loop (bL (a,())) ((false,(0:Int),()),yu,())=_:=m;rw[show(List.replicate 256 false:List Bool)=yu from rfl,h,aa];show some (t,true,())=_
 rw[n];rfl
theorem ags(c:UInt8):(T3 allowed yu).getD c.toNat false=ZP c:=by
 have key:∀n:Fin 256,(T3 allowed yu).getD n.val false=ZP (UInt8.ofNat n.val):=by decide +kernel
 have:=key ⟨c.toNat,c.toNat_lt⟩;rw[this]
 congr 1
 simp
theorem Ym:(T3 allowed yu).length=256:=by decide +kernel
theorem LO{t:List Bool}(a:t.length=256)(c:UInt8):cj ((u8 c,()),t,())=some ((t.getD c.toNat false,()),t,()):=by
 unfold cj;dsimp only;rw[PI,ae,acJ a,aa]
theorem Rj{t:List Bool}(a:t.length=256):∀(s:Tx),fR ((s,()),t,())=some ((s.dropWhile<|λc=>t.getD c.toNat false,()),t,()):=by
 have key:∀s:Tx,Loop dQ ((s,()),t,())=some ((s.dropWhile<|λc=>t.getD c.toNat false,()),t,()):=by
  intro s;induction s with
  | nil =>
    rw[aR];unfold dQ;dsimp only;rw[ER,show decide (0<([]:Tx).length)=false from rfl,af];rfl
  | cons c r b =>
    rw[aR];unfold dQ;dsimp only;have hi:idx (c::r) (0:Int)=some c:=rfl;rw[ER,show decide (0<(c::r).length)=true from by simp,ae,hi,aa,LO a,aa,Ki];dsimp only;cases e:t.getD c.toNat false with
    | false=>rfl
    | true =>
      rw[aH,af,aY (by decide) (by simp[len];omega) (DY _),ae];have d:sub (c::r) (1:Int) (minus (len (c::r)) 1)=r:=by
       have:=pJ (c::r) 1 (by simp);simpa using this
      rw[d];show Loop dQ ((r,()),t,())=_
      rw[b];rfl
 intro s;unfold fR;dsimp only;rw[key,aa]
theorem acK{a:Type}{l:List a}(h:l.length<=4294967296):cE .i64 (len l) 1=(l.length:Int)-1:=fo (by simp only[len];omega) (by simp only[len];omega)
theorem NW{t:List Bool}(f:t.length=256):∀(n:Nat) (s:Tx),s.length=n->n<=4294967296->dB ((s,()),t,())=some (((s.reverse.dropWhile λc=>t.getD c.toNat false).reverse,()),t,()):=by
 have key:∀(n:Nat) (s:Tx),s.length=n->n<=4294967296->Loop bU ((s,()),t,())=some (((s.reverse.dropWhile λc=>t.getD c.toNat false).reverse,()),t,()):=by
  intro n;induction n with
  | zero =>
    intro s a _;obtain rfl:=vY.1 a;rw[aR];unfold bU;dsimp only;rw[ER,show decide (0<([]:Tx).length)=false from rfl,af];rfl
  | succ n g =>
    intro s a d;obtain⟨r,c,rfl⟩:∃r c,s=r++[c]:=⟨s.dropLast,s.getLast (by intro e;rw[e] at a;simp at a),(List.dropLast_concat_getLast _).symm⟩;have h:r.length=n:=by simpa using a
    rw[aR];unfold bU;dsimp only;have hlen:cE .i64 (len<|r++[c]) 1=(r.length:Int):=by rw[acK<|by omega];simp
    have hi:idx (r++[c]) (r.length:Int)=some c:=by rw[vw];simp
    rw[ER,show decide (0<(r++[c]).length)=true from by simp,ae,hlen,hi,aa,LO f,aa,List.reverse_append,List.reverse_singleton,XC,Ki];dsimp only;cases j:t.getD c.toNat false with
    | false=>simp[nt,aj,cA]
    | true =>
      have i:inside 0 (r.length:Int) (len<|r++[c])=true:=aY (by decide) (by omega) (by simp only[len,iP,Qi];omega);rw[aH,af,i,ae];have b:sub (r++[c]) (0:Int) (minus (r.length:Int) 0)=r:=by rw[jU];simp
      rw[b];show Loop bU ((r,()),t,())=_
      rw[g r h<|by omega];rfl
 intro n s a d;unfold dB;dsimp only;rw[key n s a d,aa]
theorem dropWhile_nil{b:Type}{p:b->Bool}{l:List b}:l.dropWhile p=[]↔l.all p=true:=by
 induction l with
 | nil=>simp
 | cons a r c =>
   rw[Ki,O8];cases h:p a with
   | true=>simpa using c
   | false=>simp
theorem acL{p:UInt8->Bool}(s:Tx):((s.reverse.dropWhile p).reverse.dropWhile p=[])↔s.all p=true:=by
 constructor
 .intro h;rw[dropWhile_nil,abp] at h;have a:s.reverse.all p=true:=by
   have e:s.reverse.takeWhile p++s.reverse.dropWhile p=s.reverse:=Kf;rw[<-e,List.all_append,h];have:(s.reverse.takeWhile p).all p=true:=List.all_takeWhile;simp[this]
  rwa [abp] at a
 .intro h;have:s.reverse.dropWhile p=[]:=by rw[dropWhile_nil,abp];exact h
  rw[this];rfl
theorem Rk(s:Tx):lg (s,())=some (vB s,()):=by
 unfold lg vB;dsimp only;have f:ca 1 (len s)=decide (1<=s.length):=by unfold ca len;apply ky.2;omega
 have g:ca (len s) 32=decide (s.length<=32):=by unfold ca len;apply ky.2;omega
 rw[f,g];by_cases b:1<=s.length
 .rw[cd b,ae];by_cases d:s.length<=32
  .rw[cd d,ae,show([97,98,99,100,101,102,103,104,105,106,107,108,109,110,111,112,113,114,115,116,117,118,119,120,121,122,48,49,50,51,52,53,54,55,56,57,46,95,45]:Tx)=allowed from rfl];unfold gZ;dsimp only;have h:s≠[]:=by intro e;rw[e] at b;simp at b
   rw[cw h,aA,ae,cw (show allowed≠[] by decide),af,show aL (len allowed) 1=false from rfl,af,aa,af,NV allowed (by decide) (by decide),aa];dsimp only;rw[ae,NW Ym s.length s rfl (by omega),aa];dsimp only;rw[Rj Ym,aa,aa,aa];have i:(λc:UInt8=>(T3 allowed yu).getD c.toNat false)=ZP:=funext ags;rw[i];show some (bz _ [],())=_
   have:=acL (p:=ZP) s;by_cases a:s.all ZP=true
   .rw[fF<|this.2 a,a];rfl
   .rw[cw λe=>a (this.1 e)];simp at a;simp[a]
  .rw[dL d,af,aa];simp
 .rw[dL b,af,af,aa];simp
end Go.Ge
namespace Go.Ge
variable [Lp]
open Go.Lib
theorem Wz(l:List Tx):(mw l).Pairwise (λa b=>a<=b):=by
 have:=List.pairwise_mergeSort (le:=λx y:Tx=>decide (x<=y)) (λa b c h k=>by simp only[nI] at h k⊢;exact List.le_trans h k) (λa b=>by simp only[x7,nI];exact List.le_total a b) l;unfold mw;exact this.imp λh=>kx h
theorem T4(l:List Tx):(mw l).Nodup↔l.Nodup:=(List.mergeSort_perm l _).nodup_iff
theorem T5{m:List Tx}{j:Nat}(a:j<m.length):keeps m.toArray j=decide (j=0\/m[j]≠m[j-1]'(by omega)):=by
 unfold keeps;have b:m.toArray[j]! = m[j]:=by simp[a]
 have c:m.toArray[j-1]! = m[j-1]'(by omega):=by simp[show j-1<m.length by omega]
 rw[b,c]
theorem Rl(m:List Tx)(r:m.Pairwise λa b=>a<=b):(compact m).length<m.length↔¬m.Nodup:=by
 unfold compact compactUpTo;rw[CS];have hlen:(List.range m.length).length=m.length:=XI;have:((List.range m.length).filter<|keeps m.toArray).length<m.length↔∃x,x∈List.range m.length/\¬keeps m.toArray x=true:=by
  have:=List.length_filter_lt_length_iff_exists (p:=keeps m.toArray) (l:=List.range m.length)
  rwa [hlen] at this
 rw[this];constructor
 .rintro⟨j,c,f⟩ g;have e:=B5.1 c;rw[T5 e] at f;simp only[nI,HF,abj] at f;have s:=Ng.1 g (j-1) j (by omega) e (by omega);exact s f.2.symm
 .intro g;by_cases h:∃i j,∃(d:i<j) (c:j<m.length),m[i]'(by omega)=m[j]
  .obtain⟨i,j,d,c,k⟩:=h;refine⟨j,B5.2 c,?_⟩;rw[T5 c];simp only[nI,HF,abj];refine⟨by omega,?_⟩;have le:=λa b (n:a<b) (o:b<m.length)=>Ng.1 r a b (by omega) o n;have n:m[j-1]'(by omega)<=m[j]:=le (j-1) j (by omega) c;have o:m[j]<=m[j-1]'(by omega):=by
    rw[<-k];rcases ud i (j-1) with q|q
    .exact le i (j-1) q (by omega)
    .have:i=j-1:=by omega
     subst this;exact List.le_refl _
   exact(List.le_antisymm n o).symm
  .exfalso;apply g;refine Ng.2 λi j t c d k=>h ⟨i,j,d,c,k⟩
def yv(l:List Tx):Bool:=l.all vB&&decide l.Nodup&&decide (l.length<=4)
def sA(l:List Tx):Int:=if yv l=true then 0 else 1
theorem H7(l:List Tx)(b:l.length<=4294967296):fy (l,())=some (sA l,()):=by
 unfold fy;dsimp only;have d:nt (aO 4<|len l)=decide (l.length<=4):=by
  unfold nt aO len;rw[<-decide_not];apply ky.2;omega
 have e:aO (len<|compact<|mw l) (len l)=!decide l.Nodup:=by
  have h:=Rl (mw l) (Wz l);rw[PB,T4] at h;unfold aO len;rw[<-decide_not];apply ky.2;rw[<-h];omega
 have g:dI l ()=some (mw l):=by
  unfold dI;rw[gY b];rfl
 rw[gY b,ae,g,aa];unfold ec;rw[aa];rcases qF (f:=nc (l,())) l (λi=>(((0:Int),i,()),())) (λ_ x=>!vB x) (λi x=>(1,((i:Int),(i:Int),()),())) (0,((0:Int),len l,()),()) b (λi x a c j=>by
  unfold nc;dsimp only;rw[au c,ae,az a,aa,Rk,aa,Yl,gX,j];by_cases h:vB x=true<;>simp[h]) (by unfold nc;dsimp only;rw[aB,af];rfl) with ⟨i,x,a,k,o,h⟩|⟨m,h⟩
 .rw[h,aa];have:l.all vB=false:=by
   rw[abk];exact⟨x,bR.2 ⟨i,a⟩,by simpa using k⟩
  have n:sA l=1:=by unfold sA yv;rw[this];rfl
  rw[n];show aj (aj (nt<|aj (nt<|aO 4<|len l) (aO (len<|compact<|mw l)<|len l) true) (ca 0 (i:Int)) true) _ _=_
  rw[cr<|show(0:Int)<=(i:Int) by omega];cases nt (aj (nt<|aO 4<|len l) (aO (len<|compact<|mw l)<|len l) true)<;>rfl
 .rw[h,aa];have:l.all vB=true:=by
   rw[va];intro x a;obtain⟨i,c⟩:=bR.1 a;simpa using m i x c
  show aj (aj (nt<|aj (nt<|aO 4<|len l) (aO (len<|compact<|mw l)<|len l) true) (ca 0<|-1) true) _ _=_
  rw[d,e,show ca 0 (-1)=false from rfl];unfold sA yv;rw[this];cases decide l.Nodup<;>cases decide (l.length<=4)<;>rfl
end Go.Ge
namespace Go.Ge
variable [Lp]
def acM(a:List Tx)(b:Int)(i:Nat)(x:Nm):Bool:=decide ((i:Int)≠b)&&x.2.1.any (λs=>decide (s∈a))
def Rm(l:List Nm)(a:List Tx)(b:Int):Bool:=l.zipIdx.any λp=>acM a b p.2 p.1
def EW(l:List Nm)(id:Tx)(a:List Tx):Int:=if sA a≠0 then sA a else if Rm l a (LM l id)=true then 8 else 0
theorem PJ{l:List Nm}{a:List Tx}{b:Int}:Rm l a b=true↔∃i x,l[i]?=some x/\acM a b i x=true:=by
 unfold Rm;rw[XK];constructor
 .rintro⟨p,c,h⟩;obtain⟨x,i⟩:=p;exact⟨i,x,afo.1 c,h⟩
 .rintro⟨i,x,d,h⟩;exact⟨(x,i),afo.2 d,h⟩
theorem WA{l:List Nm}{a:List Tx}{b:Int}(h:∀i x,l[i]?=some x->acM a b i x=false):Rm l a b=false:=by
 rw[<-Bool.not_eq_true,PJ];rintro⟨i,x,c,k⟩;rw[h i x c] at k;cases k
theorem LP(l:List Nm)(id:Tx)(a:List Tx)(j:Small l)(r:a.length<=4294967296):je (l,id,a,())=some (EW l id a,()):=by
 unfold je EW;dsimp only;rw[H7 a r,aa];dsimp only;by_cases m:sA a=0
 .rw[m,aW rfl,aH,af,LN l id j.1,aa,bb (by simp)];generalize LM l id=own;have inner:∀(y:Nm),y.2.1.length<=4294967296->(y.2.1.any (λs=>decide (s∈a))=true/\∃(k:Nat) (q:Int×ai),Loop (iI y) (((0:Int),(0:Int),()),a,())=some (1,((k:Int),q),a,())) \/
    (y.2.1.any (λs=>decide (s∈a))=false/\∃q,Loop (iI y) (((0:Int),(0:Int),()),a,())=some (0,q,a,())):=by
   intro y t;rcases qF (f:=iI y) y.2.1 (λi=>(((0:Int),i,()),a,())) (λ_ s=>decide (s∈a)) (λi s=>(1,((i:Int),(i:Int),()),a,())) (0,((0:Int),len y.2.1,()),a,()) t (λi s b c e=>by
    unfold iI;dsimp only;rw[au c,ae,az b,aa,uI a s r,aa,gX,e];by_cases h:s∈a<;>simp[h]) (by unfold iI;dsimp only;rw[aB,af];rfl) with ⟨i,s,b,n,u,h⟩|⟨o,h⟩
   .exact .inl ⟨XK.2 ⟨s,bR.2 ⟨i,b⟩,n⟩,i,_,h⟩
   .refine .inr ⟨?_,_,h⟩;rw[List.any_eq_false];intro s b;obtain⟨i,c⟩:=bR.1 b;rw[o i s c];simp
  rcases qF (f:=om (l,id,a,()) (own,())) l (λi=>(((0:Int),i,()),a,())) (acM a own) (λi x=>(1,((8:Int),(i:Int),()),a,())) (0,((0:Int),len l,()),a,()) j.1 (λi x g c e=>by
   unfold om;dsimp only;rw[au c,ae,az g,aa];unfold acM;by_cases d:(i:Int)=own
   .rw[aW d,aH,af,e];simp[d]
   .rw[aF d,aA,ae];rcases inner x (j.2 x<|bR.2 ⟨i,g⟩) with ⟨p,k,q,h⟩|⟨p,q,h⟩
    .rw[h,aa,p];dsimp only;rw[jI,af,cr (by omega),ae];simp[d]
    .rw[h,aa,p];dsimp only;rw[eJ,ae,show ca 0 (-1)=false from rfl,af,e];simp[d]) (by unfold om;dsimp only;rw[aB,af];rfl) with ⟨i,x,g,n,u,h⟩|⟨o,h⟩
  .rw[h,aa,bd (PJ.2 ⟨i,x,g,n⟩)];rfl
  .rw[h,aa,WA o];rfl
 .rw[aF m,aA,ae,bd m]
theorem uJ(l:List Tx)(h:l.length<=4294967296):aP (l,())=some (l,()):=by
 unfold aP;dsimp only;rw[gY h];rfl
theorem I0(x y:List Tx)(l:x.length<=4294967296):dH (x,y,())=some (decide<|x=y,()):=by
 unfold dH;dsimp only;rw[acE];by_cases g:x.length=y.length
 .rw[cd g,aH,af];rcases qF (f:=jd (x,y,())) x (λi=>((false,i,()),())) (λi a=>decide (y[i]?≠some a)) (λi a=>(1,(false,(i:Int),()),())) (0,(false,len x,()),()) l (λi a j m c=>by
   unfold jd;dsimp only;have b:i<y.length:=by omega
   rw[au m,ae,au b,ae,az j,aa,az (jE b),aa,Yl,gX,c,jE b];by_cases h:a=y[i]
   .simp[bz,h]
   .have n:¬y[i]=a:=λe=>h e.symm;simp[bz,h,n]) (by unfold jd;dsimp only;rw[aB,af,af];rfl) with ⟨i,a,j,k,p,h⟩|⟨o,h⟩
  .rw[h,aa];have:x≠y:=λe=>by subst e;rw[j] at k;simp at k
   rw[dL this];rfl
  .rw[h,aa];have:x=y:=by
    apply Nk;intro i;cases d:x[i]? with
    | none =>
      have:x.length<=i:=afs.1 d;exact(afs.2<|by omega).symm
    | some a =>
      have:=o i a d;simp at this;exact this.symm
   rw[cd this];rfl
 .rw[dL g,aA,ae];have:x≠y:=λe=>g (by rw[e]);rw[dL this]
theorem pO{a:Type}{n:Nat}{l:List a}{c:Int}(b:c=n):aj (aO ((min n l.length:Nat):Int)<|len l) (aO ((min n l.length:Nat):Int) c) false=false:=by
 subst b;by_cases h:l.length<=n
 .rw[abo h,aB,af]
 .rw[sw<|by omega,aD (DY _)];cases aO (n:Int) (len l)<;>rfl
theorem jf{a:Type}{l:List a}{n:Nat}{c:Int}(b:c=n):ca (len l) c=decide (l.length<=n):=by subst b;exact JY n l
theorem fI{a:Type}{l:List a}{n:Nat}{c:Int}(b:c=n):aO c (len l)=decide (n<l.length):=by subst b;exact EP n l
def uK(l:List Tx):Prop:=l.length<=8/\∀x∈l,x.length<=100
theorem Rn(l:List Tx):∃b,na (l,())=some (b,())/\(b=true->uK l):=by
 unfold na;rcases sz (f:=jJ (l,())) l 8 (λi=>((false,i,()),())) (λ_ x=>decide (100<x.length)) (λi x=>(1,(false,(i:Int),()),())) (λn=>(0,(false,(n:Int),()),())) (by omega) (λi x d a g j=>by
  unfold jJ;dsimp only;rw[au a,ae,aU (show(i:Int)<8 by omega),ae,az d,aa,fI (n:=100) (c:=100) rfl,gX,j];by_cases h:100<x.length<;>simp[h]) (by unfold jJ;dsimp only;rw[pO (c:=8) rfl,af]) with ⟨i,x,a,d,o,_,h⟩|⟨k,h⟩
 .rw[h];exact⟨false,rfl,λh=>by cases h⟩
 .rw[h];refine⟨_,rfl,λe=>?_⟩;dsimp only at e;rw[jf (n:=8) (c:=8) rfl] at e;have m:=kx e;refine⟨m,λx d=>?_⟩;obtain⟨i,a⟩:=bR.1 d;have:=k i x (by have:=aG a;omega) a;simpa using this
def ahS(l:List Nm):Prop:=l.length<=40/\∀x∈l,x.1.length<=100/\uK x.2.1
theorem uK.small{l:List Tx}(h:uK l):l.length<=4294967296:=by have:=h.1;omega
theorem uK.each{l:List Tx}(h:uK l):∀x∈l,x.length<=4294967296:=λx a=>by have:=h.2 x a;omega
theorem ahS.small{l:List Nm}(h:ahS l):Small l:=⟨by have:=h.1;omega,λx a=>by have:=(h.2 x a).2.1;omega⟩
def id1:Tx:=[48,48,48,48,48,49]
abbrev Item:=Tx×Tx×Tx×ai
abbrev ay:=Tx×Tx×List Tx×Tx×Int×Int×Bool×ai
abbrev qH:=Tx×List Tx×Tx×Tx×List Item×ai
abbrev Dk:=Tx×List Tx×Tx×Tx×Tx×List Item×ai
abbrev xD:=Int×List ay×List qH×List Dk×ai
theorem Bx(l:List Tx):∃b,ks (l,())=some (b,())/\(b=true->uK l):=by
 unfold ks;rcases sz (f:=pN (l,())) l 8 (λi=>((false,i,()),())) (λ_ x=>decide (100<x.length)) (λi x=>(1,(false,(i:Int),()),())) (λn=>(0,(false,(n:Int),()),())) (by omega) (λi x d a g j=>by
  unfold pN;dsimp only;rw[au a,ae,aU (show(i:Int)<8 by omega),ae,az d,aa,fI (n:=100) (c:=100) rfl,gX,j];by_cases h:100<x.length<;>simp[h]) (by unfold pN;dsimp only;rw[pO (c:=8) rfl,af]) with ⟨i,x,a,d,o,_,h⟩|⟨k,h⟩
 .rw[h];exact⟨false,rfl,λh=>by cases h⟩
 .rw[h];refine⟨_,rfl,λe=>?_⟩;dsimp only at e;rw[jf (n:=8) (c:=8) rfl] at e;have m:=kx e;refine⟨m,λx d=>?_⟩;obtain⟨i,a⟩:=bR.1 d;have:=k i x (by have:=aG a;omega) a;simpa using this
theorem PK(l:List Item):∃b,ed (l,())=some (b,()):=by
 unfold ed;rcases sz (f:=en (l,())) l 8 (λi=>((false,i,()),())) (λ_ x=>decide (100<x.1.length)||decide (200<x.2.2.1.length)) (λi x=>(1,(false,(i:Int),()),())) (λn=>(0,(false,(n:Int),()),())) (by omega) (λi x a d e g=>by
  unfold en;dsimp only;rw[au d,ae,aU (show(i:Int)<8 by omega),ae,az a,aa,fI (n:=100) (c:=100) rfl,aa,fI (n:=200) (c:=200) rfl,g];by_cases h:100<x.1.length
  .simp[h,aj,nt,ab]
  .by_cases j:200<x.2.2.1.length<;>simp[h,j,aj,nt,ab]) (by unfold en;dsimp only;rw[pO (c:=8) rfl,af]) with ⟨i,x,d,a,k,_,h⟩|⟨m,h⟩
 .rw[h];exact⟨false,rfl⟩
 .rw[h];exact⟨_,rfl⟩
structure WB (b:xD):Prop where
 ll:b.2.1.length<=40
 ln:∀x∈b.2.1,uK x.2.2.1
 il:b.2.2.1.length<=40
 pn:∀x∈b.2.2.1,uK x.2.1
 bl:b.2.2.2.1.length<=40
 bn:∀x∈b.2.2.2.1,uK x.2.1
theorem acN(b:xD):∃c,pa (b,())=some (c,())/\(c=true->WB b):=by
 obtain⟨a,d⟩:∃a:List Tx->Bool,∀l,ks (l,())=some (a l,())/\(a l=true->uK l):=⟨λl=>Classical.choose (Bx l),λl=>Nh (Bx l)⟩;obtain⟨j,k⟩:∃a:List Item->Bool,∀l,ed (l,())=some (a l,()):=⟨λl=>Classical.choose (PK l),λl=>Nh (PK l)⟩;obtain⟨n,p,r,s,u⟩:=b;unfold pa;rcases sz (f:=hJ ((n,p,r,s,u),())) p 40 (λi=>((false,i,()),())) (λ_ x=>!a x.2.2.1) (λi x=>(1,(false,(i:Int),()),())) (λn=>(0,(false,(n:Int),()),())) (by omega) (λi x e g t v=>by
  unfold hJ;dsimp only;rw[au g,ae,aU (show(i:Int)<40 by omega),ae,az e,aa,(d _).1,aa,Yl,v];cases a x.2.2.1<;>rfl) (by unfold hJ;dsimp only;rw[pO (c:=40) rfl,af]) with ⟨i,x,g,e,B,_,h⟩|⟨w,h⟩
 .rw[h];exact⟨false,rfl,λh=>by cases h⟩
 rw[h,aa];dsimp only;rw[eJ,ae];rcases sz (f:=hM ((n,p,r,s,u),())) r 40 (λi=>((false,i,()),())) (λ_ x=>!a x.2.1||decide (200<x.2.2.2.1.length)||!j x.2.2.2.2.1) (λi x=>(1,(false,(i:Int),()),())) (λn=>(0,(false,(n:Int),()),())) (by omega) (λi x e g t v=>by
  unfold hM;dsimp only;rw[au g,ae,aU (show(i:Int)<40 by omega),ae,az e,aa,(d _).1,aa,aa,aa,fI (n:=200) (c:=200) rfl,k,aa,v];dsimp only;cases a x.2.1 with
  | false=>rfl
  | true =>
    by_cases m:200<x.2.2.2.1.length
    .simp[m,aj,nt,ab]
    .cases C:j x.2.2.2.2.1<;>simp[m,aj,nt,ab]) (by unfold hM;dsimp only;rw[pO (c:=40) rfl,af]) with ⟨i,x,g,e,B,_,h⟩|⟨y,h⟩
 .rw[h];exact⟨false,rfl,λh=>by cases h⟩
 rw[h,aa];dsimp only;rw[eJ,ae];rcases sz (f:=hR ((n,p,r,s,u),())) s 40 (λi=>((false,i,()),())) (λ_ x=>!a x.2.1||decide (200<x.2.2.2.2.1.length)||!j x.2.2.2.2.2.1) (λi x=>(1,(false,(i:Int),()),())) (λn=>(0,(false,(n:Int),()),())) (by omega) (λi x e g t v=>by
  unfold hR;dsimp only;rw[au g,ae,aU (show(i:Int)<40 by omega),ae,az e,aa,(d _).1,aa,aa,aa,fI (n:=200) (c:=200) rfl,k,aa,v];dsimp only;cases a x.2.1 with
  | false=>rfl
  | true =>
    by_cases m:200<x.2.2.2.2.1.length
    .simp[m,aj,nt,ab]
    .cases C:j x.2.2.2.2.2.1<;>simp[m,aj,nt,ab]) (by unfold hR;dsimp only;rw[pO (c:=40) rfl,af]) with ⟨i,x,g,e,B,_,h⟩|⟨z,h⟩
 .rw[h];exact⟨false,rfl,λh=>by cases h⟩
 rw[h,aa];refine⟨_,rfl,λo=>?_⟩;rw[jf (n:=40) (c:=40) rfl,jf (n:=40) (c:=40) rfl,jf (n:=40) (c:=40) rfl] at o;have A:p.length<=40:=by
  by_cases q:p.length<=40
  .exact q
  .rw[dL q] at o;cases o
 have m:r.length<=40:=by
  by_cases q:r.length<=40
  .exact q
  .rw[cd A,dL q] at o;cases o
 have D:s.length<=40:=by
  by_cases q:s.length<=40
  .exact q
  .rw[cd A,cd m,dL q] at o;cases o
 refine⟨A,λx e=>?_,m,λx e=>?_,D,λx e=>?_⟩
 .dsimp only at e;obtain⟨i,g⟩:=bR.1 e;have:=w i x (by have:=aG g;omega) g;exact(d _).2 (by simpa using this)
 .dsimp only at e;obtain⟨i,g⟩:=bR.1 e;have:=y i x (by have:=aG g;omega) g;simp only[BK,O4] at this;exact(d _).2 this.1.1
 .dsimp only at e;obtain⟨i,g⟩:=bR.1 e;have:=z i x (by have:=aG g;omega) g;simp only[BK,O4] at this;exact(d _).2 this.1.1
def ofL(x:ay):List Nm:=if x.2.2.2.2.2.2.1=true then [(x.1,x.2.2.1,())] else []
def ofI(x:qH):List Nm:=[(x.1,x.2.1,())]
def ofB(x:Dk):List Nm:=[(x.1,x.2.1,())]
def ofV(a:Int)(b:xD):List Nm:=if a=1 then b.2.2.2.1.flatMap ofB else if a=2 then b.2.2.1.flatMap ofI else if a=3 then b.2.1.flatMap ofL else []
theorem r4{b c:Type}{g:b->List c}(d:∀x,(g x).length<=1)(l:List b):(l.flatMap g).length<=l.length:=by
 induction l with
 | nil=>simp
 | cons a r e=>rw[abl,iP,dW];have:=d a;omega
theorem eM{a b:Type}{g:a->List b}(c:∀x,(g x).length<=1)(l:List a)(i:Nat):((l.take i).flatMap g).length<=l.length:=by
 have:=r4 c (l.take i);rw[gM] at this;omega
theorem J0(x:ay):(ofL x).length<=1:=by unfold ofL;split<;>simp
theorem Ro(x:qH):(ofI x).length<=1:=by simp[ofI]
theorem Rp(x:Dk):(ofB x).length<=1:=by simp[ofB]
theorem tY{a:Type}{s:List a}{x:a}(h:s.length<=1000):fits (plus (len s)<|len [x])=true:=b7 (by simp;omega)
theorem Rq(a:Int)(b:xD)(c:WB b):oI (a,b,())=some (ofV a b,()):=by
 unfold oI ofV;dsimp only;by_cases h:a=1
 .rw[bd h,aW h,ae];have:=nP (f:=rj (a,b,())) b.2.2.2.1 (λs i=>((i,()),(),s,())) ofB ((len b.2.2.2.1,()),(),b.2.2.2.1.flatMap ofB,()) (by have:=c.bl;omega) (λi x d e g=>by
   unfold rj;dsimp only;have l:=eM Rp b.2.2.2.1 i;rw[au e,ae,az d,aa,uJ _ (c.bn x<|bR.2 ⟨i,d⟩).small,aa,tY (by have:=c.bl;omega),ae,g];rfl) (by unfold rj;dsimp only;rw[aB,af];rfl)
  rw[this,aa,aa]
 .rw[bb h,aF h,af];by_cases j:a=2
  .rw[bd j,aW j,ae];have:=nP (f:=rk (a,b,())) b.2.2.1 (λs i=>((i,()),(),s,())) ofI ((len b.2.2.1,()),(),b.2.2.1.flatMap ofI,()) (by have:=c.il;omega) (λi x d e g=>by
    unfold rk;dsimp only;have l:=eM Ro b.2.2.1 i;rw[au e,ae,az d,aa,uJ _ (c.pn x<|bR.2 ⟨i,d⟩).small,aa,tY (by have:=c.il;omega),ae,g];rfl) (by unfold rk;dsimp only;rw[aB,af];rfl)
   rw[this,aa,aa,aa]
  .rw[bb j,aF j,af];by_cases k:a=3
   .rw[bd k,aW k,ae];have:=nP (f:=rl (a,b,())) b.2.1 (λs i=>((i,()),(),s,())) ofL ((len b.2.1,()),(),b.2.1.flatMap ofL,()) (by have:=c.ll;omega) (λi x d e g=>by
     unfold rl;dsimp only;have l:=eM J0 b.2.1 i;rw[au e,ae,az d,aa,uJ _ (c.ln x<|bR.2 ⟨i,d⟩).small,aa,tY (by have:=c.ll;omega),ae,g];unfold ofL;cases x.2.2.2.2.2.2.1 with
     | false=>simp[aj,ab,cA]
     | true=>rfl) (by unfold rl;dsimp only;rw[aB,af];rfl)
    rw[this,aa,aa,aa,aa]
   .rw[bb k,aF k,af];rfl
theorem WC(a:Int)(b:xD)(c:WB b):yr (a,b,())=some (ofV a b,()):=by
 unfold yr ofV;dsimp only;by_cases h:a=1
 .rw[bd h,aW h,ae];have:=nP (f:=rn (a,b,())) b.2.2.2.1 (λs i=>(((),i,()),s,())) ofB (((),len b.2.2.2.1,()),b.2.2.2.1.flatMap ofB,()) (by have:=c.bl;omega) (λi x d e g=>by
   unfold rn;dsimp only;have l:=eM Rp b.2.2.2.1 i;rw[au e,ae,az d,aa,aa,tY (by have:=c.bl;omega),ae,g];rfl) (by unfold rn;dsimp only;rw[aB,af];rfl)
  rw[this,aa,aa]
 .rw[bb h,aF h,af];by_cases j:a=2
  .rw[bd j,aW j,ae];have:=nP (f:=rp (a,b,())) b.2.2.1 (λs i=>(((),i,()),s,())) ofI (((),len b.2.2.1,()),b.2.2.1.flatMap ofI,()) (by have:=c.il;omega) (λi x d e g=>by
    unfold rp;dsimp only;have l:=eM Ro b.2.2.1 i;rw[au e,ae,az d,aa,aa,tY (by have:=c.il;omega),ae,g];rfl) (by unfold rp;dsimp only;rw[aB,af];rfl)
   rw[this,aa,aa,aa]
  .rw[bb j,aF j,af];by_cases k:a=3
   .rw[bd k,aW k,ae];have:=nP (f:=rq (a,b,())) b.2.1 (λs i=>(((),i,()),s,())) ofL (((),len b.2.1,()),b.2.1.flatMap ofL,()) (by have:=c.ll;omega) (λi x d e g=>by
     unfold rq;dsimp only;have l:=eM J0 b.2.1 i;rw[au e,ae,az d,aa,aa,aa,tY (by have:=c.ll;omega),ae,g];unfold ofL;cases x.2.2.2.2.2.2.1 with
     | false=>simp[aj,ab,cA]
     | true=>rfl) (by unfold rq;dsimp only;rw[aB,af];rfl)
    rw[this,aa,aa,aa,aa]
   .rw[bb k,aF k,af];rfl
theorem ZQ(d:Int)(b:xD)(c:WB b):Small (ofV d b):=by
 unfold ofV;split
 .refine⟨by have:=r4 Rp b.2.2.2.1;have:=c.bl;omega,λx a=>?_⟩;rw[XL] at a;obtain⟨y,e,a⟩:=a;simp only[ofB,zO] at a;subst a;exact(c.bn y e).small
 .split
  .refine⟨by have:=r4 Ro b.2.2.1;have:=c.il;omega,λx a=>?_⟩;rw[XL] at a;obtain⟨y,e,a⟩:=a;simp only[ofI,zO] at a;subst a;exact(c.pn y e).small
  .split
   .refine⟨by have:=r4 J0 b.2.1;have:=c.ll;omega,λx a=>?_⟩;rw[XL] at a;obtain⟨y,e,a⟩:=a;unfold ofL at a;split at a
    .simp only[zO] at a;subst a;exact(c.ln y e).small
    .cases a
   .exact⟨by simp,λx a=>by cases a⟩
def Bz(n x:Int):Int:=xc .u32 (mQ .u32 x n) (lS .u32 x<|32-n)
theorem nT{n m:Int}(h:jQ .u64 (kq .u64<|cE .i64 0 n) 31=m)(a:aO m 0=false)(b:cE .u64 32 m=n)(c:aO n 0=false)(d:32-n=m)(x:Int):bZ (x,n,())=some (Bz n x,()):=by
 unfold bZ jv Bz;dsimp only;rw[h,a,af,b,c,af,aa,d,Ww]
theorem rr{n:Int}(a:aO n 0=false)(b:cE .i64 32 n=32-n)(c:aO (32-n) 0=false)(x:Int):bP (x,n,())=some (Bz n x,()):=by
 unfold bP Bz;dsimp only;rw[a,af,b,c,af]
theorem r7(x:Int):bZ (x,7,())=some (Bz 7 x,()):=nT (m:=25) (by decide) (by decide) (by decide) (by decide) (by decide) x
theorem r18(x:Int):bZ (x,18,())=some (Bz 18 x,()):=nT (m:=14) (by decide) (by decide) (by decide) (by decide) (by decide) x
theorem r17(x:Int):bZ (x,17,())=some (Bz 17 x,()):=nT (m:=15) (by decide) (by decide) (by decide) (by decide) (by decide) x
theorem r19(x:Int):bZ (x,19,())=some (Bz 19 x,()):=nT (m:=13) (by decide) (by decide) (by decide) (by decide) (by decide) x
theorem r6(x:Int):bZ (x,6,())=some (Bz 6 x,()):=nT (m:=26) (by decide) (by decide) (by decide) (by decide) (by decide) x
theorem r11(x:Int):bZ (x,11,())=some (Bz 11 x,()):=nT (m:=21) (by decide) (by decide) (by decide) (by decide) (by decide) x
theorem r25(x:Int):bZ (x,25,())=some (Bz 25 x,()):=nT (m:=7) (by decide) (by decide) (by decide) (by decide) (by decide) x
theorem r2(x:Int):bZ (x,2,())=some (Bz 2 x,()):=nT (m:=30) (by decide) (by decide) (by decide) (by decide) (by decide) x
theorem r13(x:Int):bZ (x,13,())=some (Bz 13 x,()):=nT (m:=19) (by decide) (by decide) (by decide) (by decide) (by decide) x
theorem r22(x:Int):bZ (x,22,())=some (Bz 22 x,()):=nT (m:=10) (by decide) (by decide) (by decide) (by decide) (by decide) x
theorem t7(x:Int):bP (x,7,())=some (Bz 7 x,()):=rr (by decide) (by decide) (by decide) x
theorem t18(x:Int):bP (x,18,())=some (Bz 18 x,()):=rr (by decide) (by decide) (by decide) x
theorem t17(x:Int):bP (x,17,())=some (Bz 17 x,()):=rr (by decide) (by decide) (by decide) x
theorem t19(x:Int):bP (x,19,())=some (Bz 19 x,()):=rr (by decide) (by decide) (by decide) x
theorem t6(x:Int):bP (x,6,())=some (Bz 6 x,()):=rr (by decide) (by decide) (by decide) x
theorem t11(x:Int):bP (x,11,())=some (Bz 11 x,()):=rr (by decide) (by decide) (by decide) x
theorem t25(x:Int):bP (x,25,())=some (Bz 25 x,()):=rr (by decide) (by decide) (by decide) x
theorem t2(x:Int):bP (x,2,())=some (Bz 2 x,()):=rr (by decide) (by decide) (by decide) x
theorem t13(x:Int):bP (x,13,())=some (Bz 13 x,()):=rr (by decide) (by decide) (by decide) x
theorem t22(x:Int):bP (x,22,())=some (Bz 22 x,()):=rr (by decide) (by decide) (by decide) x
def word(b:List Int)(t:Nat):Int :=
 xc .u32 (xc .u32 (xc .u32 (lS .u32 (kq .u32<|b.getD (4*t) 0) 24)<|lS .u32 (kq .u32<|b.getD (4*t+1) 0) 16)<|lS .u32 (kq .u32<|b.getD (4*t+2) 0) 8) (kq .u32<|b.getD (4*t+3) 0)
def fw(n:Nat):List Int:=List.replicate n 0
def xE(b:List Int):Nat->List Int
 | 0=>fw 64
 | t+1=>(xE b t).set t (word b t)
theorem r5(b:List Int)(t:Nat):(xE b t).length=64:=by
 induction t with
 | zero=>rfl
 | succ t a=>simp[xE,a]
theorem ZR(b:List Int):∀(t j:Nat),t<=j->j<64->(xE b t).getD j 0=0:=by
 intro t;induction t with
 | zero =>
   intro j _ a;show(List.replicate 64 (0:Int)).getD j 0=0
   rw[Qg,OY,bd a];rfl
 | succ t c =>
   intro j e d;have:=c j (by omega) d;simp only[xE,Qg,XH] at this⊢;rw[bb<|by omega];exact this
def ahT(p:List Int)(t:Nat):Int :=
 ax .u32 (ax .u32 (ax .u32 (fC .u32 (fC .u32 (Bz 17<|p.getD (t-2) 0)<|Bz 19<|p.getD (t-2) 0)<|mQ .u32 (p.getD (t-2) 0) 10)<|p.getD (t-7) 0)
  (fC .u32 (fC .u32 (Bz 7<|p.getD (t-15) 0)<|Bz 18<|p.getD (t-15) 0)<|mQ .u32 (p.getD (t-15) 0) 3)) (p.getD (t-16) 0)
def I3(l:List Int):Nat->List Int
 | 0=>l
 | k+1=>(I3 l k).set (16+k) (ahT (I3 l k)<|16+k)
theorem Dl(l:List Int)(k:Nat):(I3 l k).length=l.length:=by
 induction k with
 | zero=>rfl
 | succ k a=>simp[I3,a]
def uL(b:List Int):List Int:=I3 (xE b 16) 48
theorem EX(b:List Int):(uL b).length=64:=by unfold uL;rw[Dl,r5]
theorem four{t:Nat}(a:t<64):gU .i64 4 (t:Int)=((4*t:Nat):Int):=by rw[Ak (by omega)<|by omega];omega
theorem T6(b:List Int)(s:b.length=64)(t:Nat)(o:t<16)(w:List Int)(l:w.length=64)(m:w.getD t 0=0)(u v:ai)(y:List Int×ai) :
  Loop (iW (b,u) (((t:Int),v),y)) ((0,()),w,())=some (((4:Int),()),w.set t<|word b t,()):=by
 let a:Nat->Int:=λj=>match j with
  | 0=>0
  | 1=>xc .u32 (lS .u32 0 8) (kq .u32<|b.getD (4*t) 0)
  | 2=>xc .u32 (lS .u32 (xc .u32 (lS .u32 0 8)<|kq .u32<|b.getD (4*t) 0) 8) (kq .u32<|b.getD (4*t+1) 0)
  | 3=>xc .u32 (lS .u32 (xc .u32 (lS .u32 (xc .u32 (lS .u32 0 8)<|kq .u32<|b.getD (4*t) 0) 8)<|kq .u32<|b.getD (4*t+1) 0) 8) (kq .u32<|b.getD (4*t+2) 0)
  | _=>word b t
 have c:∀j,j<4->a (j+1)=xc .u32 (lS .u32 (a j) 8) (kq .u32<|b.getD (4*t+j) 0):=by
  intro j n;rcases(by omega:j=0\/j=1\/j=2\/j=3) with rfl|rfl|rfl|rfl
  .rfl
  .rfl
  .rfl
  .exact(aeC _ _ _ _).symm
 have d:w=w.set t 0:=by
  apply Nk;intro j;rw[XH];split
  .rename_i e;subst e;rw[bd<|by omega];rw[Qg,jE (by omega)] at m;rw[jE<|by omega];simpa using m
  .rfl
 have:=cq (f:=iW (b,u) (((t:Int),v),y)) (r:=(((4:Int),()),w.set t<|word b t,())) 4 (λj=>(((j:Int),()),w.set t<|a j,())) (λj n=>by
  unfold iW;dsimp only;rw[four<|by omega,fE (by omega) (by omega)];have g:minus (((4*t:Nat):Int)+4) ((4*t:Nat):Int)=4:=by unfold minus;omega
  rw[g,aU (by omega),ae,br (by omega) (by omega),ae,br (by omega) (by omega)];have p:(w.set t<|a j).length=64:=by simp[l]
  have q:(w.set t<|a j).getD t 0=a j:=by simp[Qg,l,o,(by omega:t<64)]
  rw[lW b 0 (i:=plus ((4*t:Nat):Int) j) (k:=4*t+j) (by unfold plus;omega)<|by omega,aa,ae,e7 _ 0 (by rw[p];omega),q,aa,aD (by decide),af,ae,aa,aa,aa,cX,aT (by omega),pI,List.set_set,c j n])
  (by
   unfold iW;dsimp only;rw[four<|by omega,fE (by omega) (by omega)];have g:minus (((4*t:Nat):Int)+4) ((4*t:Nat):Int)=4:=by unfold minus;omega
   rw[g,aD (by omega),af,dG];rfl)
 have h:w.set t (a 0)=w:=d.symm;rw[h] at this;exact this
theorem Yn:([0,0,0,0,0,0,0,0,0,0,0,0,0,0,0,0,0,0,0,0,0,0,0,0,0,0,0,0,0,0,0,0,0,0,0,0,0,0,0,0,0,0,0,0,0,0,0,0,0,0,0,0,0,0,0,0,0,0,0,0,0,0,0,0]:List Int)=fw 64:=rfl
theorem T7(b:List Int)(a:b.length=64)(u:ai):Loop (iX (b,u)) ((0,()),fw 64,())=some (((16:Int),()),xE b 16,()):=by
 refine cq (f:=iX (b,u)) 16 (λt=>(((t:Int),()),xE b t,())) (λt c=>?_) ?_
 .unfold iX;dsimp only;rw[aU<|by omega,ae,four (by omega),fE (by omega) (by omega),aY (by omega) (by omega) (by omega),ae,T6 b a t c _ (r5 b t) (ZR b t t (cD _)<|by omega),aa,cX,aT (by omega)];rfl
 .unfold iX;dsimp only;rw[aD<|by omega,af,dG];rfl
theorem ZS(l:List Int)(a:l.length=64):Loop iY ((16,()),l,())=some (((64:Int),()),I3 l 48,()):=by
 refine cq (f:=iY) 48 (λk=>((((16+k:Nat):Int),()),I3 l k,())) (λk b=>?_) ?_
 .have hlen:(I3 l k).length=64:=by rw[Dl,a]
  unfold iY;dsimp only;rw[aU<|by omega,ae,fo (by omega) (by omega),fo (by omega) (by omega),fo (by omega) (by omega),fo (by omega) (by omega),
   br (by omega) (by omega),ae,lW _ 0 (k:=16+k-2) (by omega) (by omega),aa,br (by omega) (by omega),ae,lW _ 0 (k:=16+k-15) (by omega) (by omega),aa,
   r7,aa,r18,aa,aD (by decide),af,r17,aa,r19,aa,aD (by decide),af,br (by omega) (by omega),ae,lW _ 0 (k:=16+k-7) (by omega) (by omega),aa,
   br (by omega) (by omega),ae,lW _ 0 (k:=16+k-16) (by omega) (by omega),aa,br (by omega) (by omega),ae,e7 _ 0 (by omega),aa,aa,aa,cX,aT (by omega),pI]
  rfl
 .unfold iY;dsimp only;rw[aD<|by omega,af,dG];rfl
theorem Rr(b:List Int)(a:b.length=64)(u:ai):pK (b,u)=some (uL b,()):=by
 unfold pK;rw[Yn,T7 b a,aa];dsimp only;rw[ZS _<|r5 b 16,aa];dsimp only[uL]
theorem acP(s:aq){i:Nat}(h:i<s.length)(x:UInt8)(a:s[i]?=some x):u8 x=(av s).getD i 0:=by
 simp[av,Qg,a,u8]
theorem ZT(h:List Int)(s:aq)(p:s.length=64)(u:ai):Loop (gN (h,s,u)) ((0,()),fw 64,())=some (((16:Int),()),xE (av s) 16,()):=by
 have key:∀b:List Int,b=av s->Loop (gN (h,s,u)) ((0,()),fw 64,())=some (((16:Int),()),xE b 16,()):=by
  intro b a;refine cq (f:=gN (h,s,u)) 16 (λt=>(((t:Int),()),xE b t,())) (λt q=>?_) ?_
  .have at_:∀(i:Int) (j:Nat),i=j->j<64->∃x,idx s i=some x/\u8 x=b.getD j 0:=by
    intro i j e r;subst e;refine⟨s[j],?_,by rw[a];exact acP s (by omega) _ (jE<|by omega)⟩;rw[vw,jE]
   unfold gN;dsimp only;rw[aU<|by omega,ae,four (by omega),fE (by omega) (by omega),fE (by omega) (by omega),fE (by omega) (by omega)];obtain⟨v,c,d⟩:=at_ ((4*t:Nat):Int) (4*t) rfl (by omega);obtain⟨w,g,k⟩:=at_ (((4*t:Nat):Int)+1) (4*t+1) (by omega) (by omega);obtain⟨y,l,m⟩:=at_ (((4*t:Nat):Int)+2) (4*t+2) (by omega) (by omega);obtain⟨z,n,o⟩:=at_ (((4*t:Nat):Int)+3) (4*t+3) (by omega) (by omega);rw[c,aa,aD (by decide),af,g,aa,aD (by decide),af,l,aa,aD (by decide),af,n,aa,br (by omega) (by omega),ae,
    e7 _ 0 (by rw[r5];omega),aa,aa,aa,cX,aT (by omega),pI,d,k,m,o]
   rfl
  .unfold gN;dsimp only;rw[aD<|by omega,af,dG];rfl
 exact key _ rfl
theorem aeG(l:List Int)(a:l.length=64):Loop jW ((16,()),l,())=some (((64:Int),()),I3 l 48,()):=by
 refine cq (f:=jW) 48 (λk=>((((16+k:Nat):Int),()),I3 l k,())) (λk b=>?_) ?_
 .have hlen:(I3 l k).length=64:=by rw[Dl,a]
  unfold jW;dsimp only;rw[aU<|by omega,ae,fo (by omega) (by omega),fo (by omega) (by omega),fo (by omega) (by omega),fo (by omega) (by omega),
   br (by omega) (by omega),ae,lW _ 0 (k:=16+k-2) (by omega) (by omega),aa,br (by omega) (by omega),ae,lW _ 0 (k:=16+k-15) (by omega) (by omega),aa,
   t17,aa,t19,aa,aD (by decide),af,br (by omega) (by omega),ae,lW _ 0 (k:=16+k-7) (by omega) (by omega),aa,t7,aa,t18,aa,aD (by decide),af,
   br (by omega) (by omega),ae,lW _ 0 (k:=16+k-16) (by omega) (by omega),aa,br (by omega) (by omega),ae,e7 _ 0 (by omega),aa,aa,aa,cX,aT (by omega),pI]
  rfl
 .unfold jW;dsimp only;rw[aD<|by omega,af,dG];rfl
abbrev W8:=Int×Int×Int×Int×Int×Int×Int×Int
def rnd(k w:Int):W8->W8
 | (a,b,c,d,e,f,g,h) =>
   let one:=ax .u32 (ax .u32 (ax .u32 (ax .u32 h<|fC .u32 (fC .u32 (Bz 6 e)<|Bz 11 e)<|Bz 25 e)<|fC .u32 g<|jQ .u32 e<|fC .u32 f g) k) w
   let two:=ax .u32 (fC .u32 (fC .u32 (Bz 2 a)<|Bz 13 a)<|Bz 22 a) (xc .u32 (jQ .u32 a b)<|jQ .u32 c<|xc .u32 a b)
   (ax .u32 one two,a,b,c,ax .u32 d one,e,f,g)
def EY(K w:List Int)(s:W8):Nat->W8
 | 0=>s
 | t+1=>rnd (K.getD t 0) (w.getD t 0) (EY K w s t)
def r8:List Int:=[1116352408,1899447441,3049323471,3921009573,961987163,1508970993,2453635748,2870763221,3624381080,310598401,607225278,1426881987,1925078388,2162078206,2614888103,3248222580,3835390401,4022224774,264347078,604807628,770255983,1249150122,1555081692,1996064986,2554220882,2821834349,2952996808,3210313671,3336571891,3584528711,113926993,338241895,666307205,773529912,1294757372,1396182291,1695183700,1986661051,2177026350,2456956037,2730485921,2820302411,3259730800,3345764771,3516065817,3600352804,4094571909,275423344,430227734,506948616,659060556,883997877,958139571,1322822218,1537002063,1747873779,1955562222,2024104815,2227730452,2361852424,2428436474,2756734187,3204031479,3329325298]
theorem ZU:Am ()=some (r8,()):=rfl
theorem WD:uE ()=some (r8,()):=rfl
def qm(s:W8)(t:Int):Int×Int×Int×Int×Int×Int×Int×Int×Int×ai:=(s.1,s.2.1,s.2.2.1,s.2.2.2.1,s.2.2.2.2.1,s.2.2.2.2.2.1,s.2.2.2.2.2.2.1,s.2.2.2.2.2.2.2,t,())
def jD(s:W8):List Int:=[s.1,s.2.1,s.2.2.1,s.2.2.2.1,s.2.2.2.2.1,s.2.2.2.2.2.1,s.2.2.2.2.2.2.1,s.2.2.2.2.2.2.2]
theorem WE(w:List Int)(i:w.length=64)(s:W8)(u v:ai):Loop (fc (r8,u) (w,v)) (qm s 0,())=some (qm (EY r8 w s 64) 64,()):=by
 refine cq (f:=fc (r8,u) (w,v)) 64 (λt=>(qm (EY r8 w s t) t,())) (λt j=>?_) ?_
 .show fc (r8,u) (w,v) (qm (EY r8 w s t) t,())=some (.inl (qm (rnd (r8.getD t 0) (w.getD t 0)<|EY r8 w s t) ((t+1:Nat):Int),()))
  generalize EY r8 w s t=q;obtain⟨a,b,c,d,e,f,g,h⟩:=q;unfold fc qm;dsimp only;rw[aU<|by omega,ae,r6,aa,r11,aa,r25,aa,br (by omega) (by omega),ae,e7 r8 0 (by show t<64;omega),aa,ae,e7 w 0 (by omega),aa,
   r2,aa,r13,aa,r22,aa,cX,aT (by omega)]
  rfl
 .unfold fc qm;dsimp only;rw[aD<|by omega,af,dG];rfl
theorem WG(w:List Int)(A:w.length=64)(s:W8)(q:Int×ai)(u v:ai):Loop (gO (q,w,u) (r8,v)) ((0,()),jD s,())=some (((64:Int),()),jD<|EY r8 w s 64,()):=by
 refine cq (f:=gO (q,w,u) (r8,v)) 64 (λt=>(((t:Int),()),jD<|EY r8 w s t,())) (λt i=>?_) ?_
 .show gO (q,w,u) (r8,v) (((t:Int),()),jD<|EY r8 w s t,())=some (.inl ((((t+1:Nat):Int),()),jD<|rnd (r8.getD t 0) (w.getD t 0)<|EY r8 w s t,()))
  generalize EY r8 w s t=q;obtain⟨a,b,c,d,e,f,g,h⟩:=q;have j:idx (jD (a,b,c,d,e,f,g,h)) 0=some a:=rfl;have k:idx (jD (a,b,c,d,e,f,g,h)) 1=some b:=rfl;have l:idx (jD (a,b,c,d,e,f,g,h)) 2=some c:=rfl;have m:idx (jD (a,b,c,d,e,f,g,h)) 3=some d:=rfl;have n:idx (jD (a,b,c,d,e,f,g,h)) 4=some e:=rfl;have o:idx (jD (a,b,c,d,e,f,g,h)) 5=some f:=rfl;have p:idx (jD (a,b,c,d,e,f,g,h)) 6=some g:=rfl;have r:idx (jD (a,b,c,d,e,f,g,h)) 7=some h:=rfl;have w0:within 0 8=true:=by decide
  have w1:within 1 8=true:=by decide
  have w2:within 2 8=true:=by decide
  have w3:within 3 8=true:=by decide
  have w4:within 4 8=true:=by decide
  have x:within 5 8=true:=by decide
  have y:within 6 8=true:=by decide
  have z:within 7 8=true:=by decide
  have wt:within (t:Int) 64=true:=br (by omega) (by omega);unfold gO;dsimp only;simp only[aU<|show(t:Int)<64 by omega,ae,w0,w1,w2,w3,w4,x,y,z,wt,j,k,l,m,n,o,p,r,aa,t6,t11,t25,t2,t13,t22,e7 r8 0 (show t<r8.length from i),e7 w 0 (show t<w.length by omega),cX,aT (show t<4611686018427387904 by omega),
   <-ahP,<-agn]
  rfl
 .unfold gO;dsimp only;rw[aD<|by omega,af,dG];rfl
def of8(l:List Int):W8:=(l.getD 0 0,l.getD 1 0,l.getD 2 0,l.getD 3 0,l.getD 4 0,l.getD 5 0,l.getD 6 0,l.getD 7 0)
theorem ZV(l:List Int)(i:l.length=8):jD (of8 l)=l:=by
 match l,i with
 | [a,b,c,d,e,f,g,h],_=>rfl
def xF(l m:List Int):Nat->List Int
 | 0=>l
 | i+1=>(xF l m i).set i (ax .u32 (l.getD i 0)<|m.getD i 0)
theorem Ao(l m:List Int)(i:Nat):(xF l m i).length=l.length:=by
 induction i with
 | zero=>rfl
 | succ i a=>simp[xF,a]
theorem Yo(l m:List Int):∀(i j:Nat),i<=j->(xF l m i).getD j 0=l.getD j 0:=by
 intro i;induction i with
 | zero=>intro j _;rfl
 | succ i a =>
   intro j h;have:=a j (by omega);simp only[xF,Qg,XH] at this⊢;rw[bb<|by omega];exact this
def comp(h b:List Int):List Int:=xF h (jD<|EY r8 (uL b) (of8 h) 64) 8
theorem T8(h b:List Int):(comp h b).length=h.length:=Ao _ _ _
theorem ZW(l m:List Int)(i:l.length=8)(j:m.length=8):xF l m 8=xF m l 8:=by
 match l,i,m,j with
 | [a,b,c,d,e,f,g,h],_,[k,n,o,p,q,r,s,t],_ =>
   simp only[xF,List.set,List.getD_cons_zero,List.getD_cons_succ];simp only[T1]
theorem ZX(h:List Int)(c:h.length=8)(s:aq)(g:s.length=64)(u:ai):re (h,s,u)=some (comp h<|av s,()):=by
 have j:(xE (av s) 16).length=64:=r5 _ _;unfold re;rw[Yn,ZT h s g,aa];dsimp only;rw[aeG _ j,aa,WD,aa];have k:h=jD (of8 h):=(ZV h c).symm;have b:(uL<|av s).length=64:=EX _;have d:=WG (uL<|av s) b (of8 h) ((64:Int),()) () ();rw[<-k] at d;rw[show I3 (xE (av s) 16) 48=uL (av s) from rfl,d,aa];dsimp only;generalize e:jD (EY r8 (uL<|av s) (of8 h) 64)=m;have a:m.length=8:=by rw[<-e];rfl
 have:Loop (jX (h,s,u)) ((0,()),m,())=some (((8:Int),()),xF m h 8,()):=by
  refine cq (f:=jX (h,s,u)) 8 (λi=>(((i:Int),()),xF m h i,())) (λi l=>?_) ?_
  .have n:(xF m h i).length=8:=by rw[Ao,a]
   unfold jX;dsimp only;simp only[aU<|show(i:Int)<8 by omega,ae,br (show(0:Int)<=i by omega) (show(i:Int)<8 by omega),e7 (xF m h i) 0 (show i<(xF m h i).length by omega),e7 h 0 (show i<h.length by omega),aa,cX,aT (show i<4611686018427387904 by omega),pI];rw[Yo m h i i<|cD _];rfl
  .unfold jX;dsimp only;rw[aD<|by omega,af,dG];rfl
 rw[this,aa];dsimp only;rw[ZW m h a c];unfold comp;rw[e]
def H0:List Int:=[1779033703,3144134277,1013904242,2773480762,1359893119,2600822924,528734635,1541459225]
theorem ZY:rY ()=some (H0,()):=rfl
theorem NX:wo ()=some (H0,()):=rfl
def x5(a:aq):Nat->List Int
 | 0=>H0
 | k+1=>comp (x5 a k) (av<|(a.drop<|64*k).take 64)
theorem yw(a:aq)(k:Nat):(x5 a k).length=8:=by
 induction k with
 | zero=>rfl
 | succ k b=>simp only[x5];rw[T8,b]
theorem Yp(a b:aq):∀k,64*k<=a.length->x5 (a++b) k=x5 a k:=by
 intro k;induction k with
 | zero=>intro _;rfl
 | succ k c =>
   intro h;simp only[x5];rw[c<|by omega,YZ (by omega),Y0 (by rw[ma];omega)]
abbrev Dm:=(Bool×List Int×ai)×List Int×Int×ai
def Inv(c:Dm)(a:aq):Prop :=
 ∃b,c=((decide<|64<=a.length,(if 64<=a.length then x5 a (a.length / 64) else fw 8),()),b,(a.length:Int),())/\b.length=64/\b.take (a.length % 64)=av (a.drop<|64*(a.length / 64))
def acQ:Dm:=((false,fw 8,()),fw 64,0,())
theorem ajQ:Inv acQ []:=⟨fw 64,rfl,rfl,rfl⟩
theorem ru(a b:aq):av (a++b)=av a++av b:=by simp[av]
theorem Ap(a:aq)(n:Nat):(av a).take n=av (a.take n):=by simp[av,abw]
theorem fA(a:aq):(av a).length=a.length:=by simp[av]
theorem uM(a b:Nat):iA (a:Int) (b:Int)=((a % b:Nat):Int):=by
 unfold iA;rw[Int.tmod_eq_emod_of_nonneg<|by omega];exact(Int.natCast_emod a b).symm
theorem acR(q:W8)(a:Dm)(b:a.1.2.1.length=8):Loop (gj (qm q 64,())) ((0,()),a,())=some (((8:Int),()),((a.1.1,xF a.1.2.1 (jD q) 8,a.1.2.2),a.2),()):=by
 obtain⟨⟨c,h,u⟩,d⟩:=a;dsimp only at b⊢;refine cq (f:=gj (qm q 64,())) 8 (λi=>(((i:Int),()),((c,xF h (jD q) i,u),d),())) (λi j=>?_) ?_
 .have k:(xF h (jD q) i).length=8:=by rw[Ao,b]
  have e:([(qm q 64).1,(qm q 64).2.1,(qm q 64).2.2.1,(qm q 64).2.2.2.1,(qm q 64).2.2.2.2.1,(qm q 64).2.2.2.2.2.1,(qm q 64).2.2.2.2.2.2.1,(qm q 64).2.2.2.2.2.2.2.1]:List Int)=jD q:=rfl;unfold gj;dsimp only;rw[e];have g:(jD q).length=8:=rfl;simp only[aU<|show(i:Int)<8 by omega,ae,br (show(0:Int)<=i by omega) (show(i:Int)<8 by omega),e7 (xF h (jD q) i) 0 (show i<(xF h (jD q) i).length by omega),e7 (jD q) 0 (show i<(jD q).length by omega),aa,cX,aT (show i<4611686018427387904 by omega),pI];rw[Yo h (jD q) i i<|cD _];rfl
 .unfold gj;dsimp only;rw[aD<|by omega,af,dG];rfl
theorem acS(a b:aq)(O:Dm)(P:a≠[])(Q:Inv O b)(hb:b.length+a.length<1152921504606846976) :
  ∃s,fe ((a,()),O,())=some (.inl ((a.drop<|64-b.length % 64,()),s,()))/\Inv s (b++a.take (64-b.length % 64)):=by
 obtain⟨e,rfl,hw,R⟩:=Q;generalize S:b.length=N at *;have T:N % 64<64:=w9 _ (by decide);have D:iA (N:Int) 64=((N % 64:Nat):Int):=uM N 64;have em:gC (av a) (minus (64:Int) ((N % 64:Nat):Int))=av (a.take<|64-N % 64):=by
  unfold gC minus;rw[show((64:Int)-((N % 64:Nat):Int)).toNat=64-N % 64 by omega,Ap]
 generalize l:(a.take<|64-N % 64).length=k;have U:k=min (64-N % 64) a.length:=by rw[<-l,gM]
 have V:0<k:=by
  have:0<a.length:=by cases a with|nil=>exact absurd rfl P|cons=>simp
  omega
 have t:len (av<|a.take<|64-N % 64)=(k:Int):=by unfold len;rw[fA,l]
 have u:ax .i64 ((N % 64:Nat):Int) (k:Int)=((N % 64+k:Nat):Int):=by rw[fE (by omega)<|by omega];omega
 have m:ax .i64 (N:Int) (k:Int)=((N+k:Nat):Int):=by rw[fE (by omega)<|by omega];omega
 have v:inside ((N % 64:Nat):Int) 64 64=true:=aY (by omega) (by omega) (by omega);have w:inside (k:Int) (len a) (len a)=true:=aY (by omega) (by unfold len;omega) (by omega);have z:sub a (k:Int) (minus (len a) (k:Int))=a.drop k:=by
  unfold sub minus len;rw[rK,zN (by rw[ma];omega)]
 have A:a.drop k=a.drop (64-N % 64):=by
  rcases Nat.le_total (64-N % 64) a.length with h|h
  .rw[show k=64-N % 64 by omega]
  .rw[Kh<|by omega,Kh h]
 have n:over e ((N % 64:Nat):Int) (av<|a.take<|64-N % 64)=av (b.drop (64*(N / 64))++a.take (64-N % 64))++e.drop (N % 64+k):=by
  unfold over;rw[rK,R,fA,l,ru]
 have E:nt (bz a [])=true:=by
  unfold bz nt;cases a with
  | nil=>exact absurd rfl P
  | cons x r=>rfl
 have f:(b++a.take (64-N % 64)).length=N+k:=by rw[iP,S,l]
 have W:64*(N / 64)+N % 64=N:=SK N 64;have c:(b.drop<|64*(N / 64)).length=N % 64:=by rw[ma];omega
 have j:(av (b.drop (64*(N / 64))++a.take (64-N % 64))++e.drop (N % 64+k)).length=64:=by
  rw[iP,fA,iP,c,l,ma];omega
 unfold fe;dsimp only;simp only[E,ae,aF (show(64:Int)≠0 by decide),af,D,v,em,t,w,u,m,z,n];by_cases F:N % 64+k=64
 ·
  have G:e.drop (N % 64+k)=[]:=by rw[Kh<|by omega]
  simp only[aW<|show((N % 64+k:Nat):Int)=64 by omega,ae,G,wX] at j⊢;generalize B:av (b.drop (64*(N / 64))++a.take (64-N % 64))=blk at *;have C:(N+k) / 64=N / 64+1:=by omega
  have p:(N+k) % 64=0:=by omega
  have q:((b++a.take (64-N % 64)).drop<|64*(N / 64)).take 64=b.drop (64*(N / 64))++a.take (64-N % 64):=by
   rw[YZ<|by omega,zN (by rw[iP,c,l];omega)]
  have H:∃I:Bool,I=true/\(ab (aj (nt<|decide<|64<=N) (ab (rY ()) λJ:List Int×ai=>some ((),((true,J.1,()),blk,((N+k:Nat):Int),()),()))<|some ((),((decide<|64<=N,(if 64<=N then x5 b (N / 64) else fw 8),()),blk,((N+k:Nat):Int),()),())) λy:ai×Dm×ai=>some y)=some ((),((true,x5 b (N / 64),()),blk,((N+k:Nat):Int),()),()):=by
   refine⟨true,rfl,?_⟩;by_cases d:64<=N
   .simp only[d,HE,mh];rfl
   .have:N / 64=0:=by omega
    simp only[d,XS,sR,this,ZY];rfl
  obtain⟨_,_,H⟩:=H;have K:(aj (nt<|decide<|64<=N) (ab (rY ()) λJ:List Int×ai=>some ((),((true,J.1,()),blk,((N+k:Nat):Int),()),())) (some ((),((decide<|64<=N,(if 64<=N then x5 b (N / 64) else fw 8),()),blk,((N+k:Nat):Int),()),())):Option (ai×Dm×ai))=some ((),((true,x5 b (N / 64),()),blk,((N+k:Nat):Int),()),()):=by
   have:∀o:Option (ai×Dm×ai),(ab o λy=>some y)=o:=by intro o;cases o<;>rfl
   exact(this _).symm.trans H
  rw[K,aa,ZU,aa,Rr blk j,aa];dsimp only;have L:=yw b (N / 64);have X:=lW (x5 b<|N / 64) 0 (i:=0) (k:=0) rfl (by omega);have Y:=lW (x5 b<|N / 64) 0 (i:=1) (k:=1) rfl (by omega);have Z:=lW (x5 b<|N / 64) 0 (i:=2) (k:=2) rfl (by omega);have i3:=lW (x5 b<|N / 64) 0 (i:=3) (k:=3) rfl (by omega);have i4:=lW (x5 b<|N / 64) 0 (i:=4) (k:=4) rfl (by omega);have i5:=lW (x5 b<|N / 64) 0 (i:=5) (k:=5) rfl (by omega);have i6:=lW (x5 b<|N / 64) 0 (i:=6) (k:=6) rfl (by omega);have i7:=lW (x5 b<|N / 64) 0 (i:=7) (k:=7) rfl (by omega);have w0:within 0 8=true:=by decide
  have w1:within 1 8=true:=by decide
  have w2:within 2 8=true:=by decide
  have w3:within 3 8=true:=by decide
  have w4:within 4 8=true:=by decide
  have w5:within 5 8=true:=by decide
  have w6:within 6 8=true:=by decide
  have w7:within 7 8=true:=by decide
  simp only[w0,w1,w2,w3,w4,w5,w6,w7,ae,X,Y,Z,i3,i4,i5,i6,i7,aa];have hr:=WE (uL blk) (EX blk) (of8<|x5 b<|N / 64) () ();rw[show((x5 b<|N / 64).getD 0 0,(x5 b<|N / 64).getD 1 0,(x5 b<|N / 64).getD 2 0,(x5 b<|N / 64).getD 3 0,(x5 b<|N / 64).getD 4 0,(x5 b<|N / 64).getD 5 0,(x5 b<|N / 64).getD 6 0,(x5 b<|N / 64).getD 7 0,(0:Int),())=qm (of8<|x5 b<|N / 64) 0 from rfl,hr,aa];rw[acR _ ((true,x5 b (N / 64),()),blk,((N+k:Nat):Int),()) L,aa,aa,cX];dsimp only;refine⟨_,by rw[A],?_⟩;refine⟨blk,?_,j,?_⟩
  .rw[f];have d:64<=N+k:=by omega
   simp only[d,HE,mh];have M:x5 (b++a.take (64-N % 64)) ((N+k) / 64)=xF (x5 b<|N / 64) (jD<|EY r8 (uL blk) (of8<|x5 b<|N / 64) 64) 8:=by
    rw[C];simp only[x5];rw[Yp b _ _<|by omega,q,B];rfl
   rw[M]
  .rw[f,p,C,Kq,Kh (by omega)];rfl
 .have hnf:N % 64+k<64:=by omega
  simp only[aF<|show((N % 64+k:Nat):Int)≠64 by omega,af,aa,cX];refine⟨_,by rw[A],?_⟩;have C:(N+k) / 64=N / 64:=by omega
  have p:(N+k) % 64=N % 64+k:=by omega
  refine⟨_,?_,j,?_⟩
  .rw[f,C];by_cases d:64<=N
   .have g:64<=N+k:=by omega
    simp only[d,g,HE,mh];rw[Yp b _ _<|by omega]
   .have g:¬64<=N+k:=by omega
    simp only[d,g,XS,sR]
  .rw[f,p,C,Y0 (by rw[fA,iP,c,l];omega),zN (by rw[fA,iP,c,l];omega),YZ (by omega)]
theorem acT:∀(n:Nat) (part all:aq) (st:Dm),part.length<=n->Inv st all->all.length+part.length<1152921504606846976 ->
  ∃a,Loop fe ((part,()),st,())=some (([],()),a,())/\Inv a (all++part):=by
 intro n;induction n with
 | zero =>
   intro part all st h b c;obtain rfl:part=[]:=aaT (by omega);refine⟨st,?_,by rw[wX];exact b⟩;rw[aR];have:fe (([],()),st,())=some (.inr (([],()),st,())):=by
    unfold fe;dsimp only;rw[show nt (bz [] [])=false from rfl,af,dG]
   rw[this];rfl
 | succ n f =>
   intro part all st h b c;by_cases d:part=[]
   .subst d;exact f [] all st (by simp) b c
   .obtain⟨e,i,j⟩:=acS part all st d b c;have k:all.length % 64<64:=w9 _ (by decide);have l:0<part.length:=by cases part with|nil=>exact absurd rfl d|cons=>simp
    obtain⟨a,m,g⟩:=f (part.drop<|64-all.length % 64) _ e (by rw[ma];omega) j (by rw[iP,gM,ma];omega);refine⟨a,?_,by rw[oC,x6] at g;exact g⟩;rw[aR,i];exact m
theorem J1(a b:aq)(d:Dm)(e:Inv d b)(f:b.length+a.length<1152921504606846976):∃c,ft ((a,()),d,())=some ((),c,())/\Inv c (b++a):=by
 obtain⟨c,g,h⟩:=acT a.length a b d (cD _) e f;refine⟨c,?_,h⟩;unfold ft;dsimp only;rw[g,aa]
def zs(n:Nat):Nat:=(119-n % 64) % 64
def dC(n k:Nat):Int:=kq .u8 (mQ .u64 (gU .u64 (kq .u64 (n:Int)) 8) ((8*k:Nat):Int))
def Gw(n:Nat):List Int:=[dC n 7,dC n 6,dC n 5,dC n 4,dC n 3,dC n 2,dC n 1,dC n 0]
def pad(s:aq):aq:=s++[128]++List.replicate (zs s.length) 0++aX (Gw s.length)
theorem Dn(s:aq):(pad s).length=s.length+1+zs s.length+8:=by simp[pad,aX,Gw];omega
theorem Yq(s:aq):(pad s).length % 64=0:=by rw[Dn];unfold zs;omega
theorem oo(s:aq):aX (av s)=s:=by
 unfold aX av;rw[Pb]
 conv=>rhs;rw[<-List.map_id s]
 apply Qj;intro x _;simp
theorem wv(a b:List Int):aX (a++b)=aX a++aX b:=by simp[aX]
theorem T9(s:aq)(c:s.length<=1048576):Loop jV (((),()),av s++[128],())=some (((),()),av s++[128]++fw (zs s.length),()):=by
 have d:zs s.length<64:=w9 _ (by decide);have:=cq (f:=jV) (r:=(((),()),av s++[128]++fw (zs s.length),())) (zs s.length) (λj=>(((),()),av s++[128]++fw j,())) (λj a=>by
  unfold jV;dsimp only;have el:len (av s++[128]++fw j)=((s.length+1+j:Nat):Int):=by unfold len;simp[av,fw];omega
  rw[aF<|by decide,af,el,show((64:Int))=((64:Nat):Int) from rfl,uM,aF (by unfold zs at a;omega),show nt false=true from rfl,ae,dA (by simp only[plus,len,Qi];omega),ae,cX]
  congr 4
  show av s++[128]++fw j++[0]=_
  rw[oC,show fw j++[0]=fw (j+1) from by simp[fw,List.replicate_succ']])
  (by
   unfold jV;dsimp only;have el:len (av s++[128]++fw (zs s.length))=((s.length+1+zs s.length:Nat):Int):=by unfold len;simp[av,fw];omega
   rw[aF<|by decide,af,el,show((64:Int))=((64:Nat):Int) from rfl,uM,aW (by unfold zs;omega),show nt true=false from rfl,af,dG])
 have b:av s++[128]++fw 0=av s++[128]:=by simp[fw]
 simp only[b] at this;exact this
theorem ZZ(s:aq)(b:List Int)(p:s.length<=1048576)(q:b.length<=2097152)(u:ai):Loop (dZ (s,u)) (((),7,()),b,())=some (((),-1,()),b++Gw s.length,()):=by
 have step:∀(k:Nat) (c:List Int),k<=7->c.length<=2097160->dZ (s,u) (((),(k:Int),()),c,())=some (.inl (((),(k:Int)-1,()),c++[dC s.length k],())):=by
  intro k c d e;unfold dZ;dsimp only;have f:gU .i64 8 (k:Int)=((8*k:Nat):Int):=by rw[Ak (by omega)<|by omega];omega
  rw[cr<|by omega,ae,f,aD (by omega),af,dA (by simp only[plus,len,Qi];omega),ae,fo (by omega) (by omega),cX];rfl
 have a:∀c:List Int,dZ (s,u) (((),(-1:Int),()),c,())=some (.inr (((),-1,()),c,())):=by
  intro c;unfold dZ;dsimp only;rw[eu<|by decide,af,dG]
 have L:∀(k:Nat) (c:List Int),k<=7->c.length<=2097160->Loop (dZ (s,u)) (((),(k:Int),()),c,())=Loop (dZ (s,u)) (((),(k:Int)-1,()),c++[dC s.length k],()):=by
  intro k c d e;rw[aR,step k c d e];rfl
 have g:=L 7 b (by omega) (by omega);have h:=L 6 (b++[dC s.length 7]) (by omega) (by simp;omega);have i:=L 5 (b++[dC s.length 7]++[dC s.length 6]) (by omega) (by simp;omega);have j:=L 4 (b++[dC s.length 7]++[dC s.length 6]++[dC s.length 5]) (by omega) (by simp;omega);have l:=L 3 (b++[dC s.length 7]++[dC s.length 6]++[dC s.length 5]++[dC s.length 4]) (by omega) (by simp;omega);have m:=L 2 (b++[dC s.length 7]++[dC s.length 6]++[dC s.length 5]++[dC s.length 4]++[dC s.length 3]) (by omega) (by simp;omega);have n:=L 1 (b++[dC s.length 7]++[dC s.length 6]++[dC s.length 5]++[dC s.length 4]++[dC s.length 3]++[dC s.length 2]) (by omega) (by simp;omega);have o:=L 0 (b++[dC s.length 7]++[dC s.length 6]++[dC s.length 5]++[dC s.length 4]++[dC s.length 3]++[dC s.length 2]++[dC s.length 1]) (by omega) (by simp;omega);refine g.trans (h.trans<|i.trans<|j.trans<|l.trans<|m.trans<|n.trans<|o.trans ?_);have:b++[dC s.length 7]++[dC s.length 6]++[dC s.length 5]++[dC s.length 4]++[dC s.length 3]++[dC s.length 2]++[dC s.length 1]++[dC s.length 0]=b++Gw s.length:=by simp[Gw]
 rw[this];show Loop (dZ (s,u)) (((),-1,()),b++Gw s.length,())=_
 rw[aR,a];rfl
theorem Z0(s:aq)(a:s.length<=1048576):rb (s,())=some (pad s,()):=by
 have b:zs s.length<64:=w9 _ (by decide);unfold rb;dsimp only;rw[dA<|by unfold len;omega,ae,dA (by simp only[plus,len,Qi,fA];omega),ae,show app (av s) ([128]:List Int)=av s++[128] from rfl,T9 s a,aa];dsimp only;rw[ZZ s _ a<|by simp[fA,fw];omega,aa];dsimp only;rw[wv,wv,wv,oo];unfold pad;have:aX (fw<|zs s.length)=List.replicate (zs s.length) 0:=by unfold aX fw;rw[List.map_replicate];rfl
 rw[this];rfl
theorem WH(t:aq)(c:t.length % 64=0)(d:t.length<=2097152)(u:ai):Loop (my (t,u)) ((0,()),H0,())=some (((t.length:Int),()),x5 t<|t.length / 64,()):=by
 have:=cq (f:=my (t,u)) (r:=(((t.length:Int),()),x5 t<|t.length / 64,())) (t.length / 64) (λj=>((((64*j:Nat):Int),()),x5 t j,())) (λj e=>by
  unfold my;dsimp only;have a:64*j+64<=t.length:=by omega
  rw[fE (by omega)<|by omega,cr (by unfold len;omega),ae,aY (by omega) (by omega) (by unfold len;omega),ae];have b:sub t ((64*j:Nat):Int) (minus (((64*j:Nat):Int)+64) ((64*j:Nat):Int))=(t.drop<|64*j).take 64:=by
   unfold sub minus;rw[rK,show(((64*j:Nat):Int)+64-((64*j:Nat):Int)).toNat=64 by omega]
  rw[b,ZX _ (yw t j) _ (by rw[gM,ma];omega),aa,cX];rw[show(((64*j:Nat):Int)+64)=((64*(j+1):Nat):Int) by omega];rfl)
  (by
   unfold my;dsimp only;have a:64*(t.length / 64)=t.length:=by omega
   rw[a,fE (by omega) (by omega),eu (by unfold len;omega),af,dG])
 exact this
def ajR(h:List Int)(i:Nat):Int:=kq .u8 (mQ .u32 (h.getD (i / 4) 0) ((24-8*(i % 4):Nat):Int))
def Ua(h:List Int):Nat->List Int
 | 0=>fw 32
 | i+1=>(Ua h i).set i (ajR h i)
theorem Aq(h:List Int)(i:Nat):(Ua h i).length=32:=by
 induction i with
 | zero=>rfl
 | succ i a=>simp[Ua,a]
theorem Yr:([0,0,0,0,0,0,0,0,0,0,0,0,0,0,0,0,0,0,0,0,0,0,0,0,0,0,0,0,0,0,0,0]:List Int)=fw 32:=rfl
theorem acU{a:Nat}(h:a<4611686018427387904):Ix .i64 (a:Int) 4=((a / 4:Nat):Int):=by
 have e:((a:Int).tdiv 4)=((a / 4:Nat):Int):=by rw[Int.tdiv_eq_ediv_of_nonneg<|by omega];exact(Int.natCast_ediv a 4).symm
 unfold Ix;rw[e];have:=Bu (a:=((a / 4:Nat):Int)) (by omega) (by omega);unfold kq at this;exact this
theorem Ub{h o:List Int}(a:h.length=8)(b:o.length=32)(i:Nat)(c:i<32):Ix .i64 (i:Int) 4=((i / 4:Nat):Int)/\cE .i64 24 (gU .i64 8<|iA (i:Int) 4)=((24-8*(i % 4):Nat):Int):=by
 refine⟨acU<|by omega,?_⟩;rw[show(4:Int)=((4:Nat):Int) from rfl,uM,Ak (by omega) (by omega),fo (by omega) (by omega)];omega
theorem aeH(h:List Int)(a:h.length=8)(q:Int×ai)(u:ai):Loop (mz (q,h,u)) ((0,()),fw 32,())=some (((32:Int),()),Ua h 32,()):=by
 refine cq (f:=mz (q,h,u)) 32 (λi=>(((i:Int),()),Ua h i,())) (λi b=>?_) ?_
 .have c:=Aq h i;obtain⟨d,e⟩:=Ub a c i b;unfold mz;dsimp only;rw[aU<|by omega,ae,aF (by decide),af,d,br (by omega) (by omega),ae,e7 h 0 (by omega),aa,af,e,aD (by omega),af,br (by omega) (by omega),ae,
   e7 _ 0 (by omega),aa,aa,aa,cX,aT (by omega),pI]
  rfl
 .unfold mz;dsimp only;rw[aD<|by omega,af,dG];rfl
theorem aeI(h w:List Int)(j:h.length=8)(g:Bool)(n:Int)(a b c d e:ai)(r:ai):Loop (gk (r,((g,h,a),w,n,b),c)) ((0,()),fw 32,())=some (((32:Int),()),Ua h 32,()):=by
 refine cq (f:=gk (r,((g,h,a),w,n,b),c)) 32 (λi=>(((i:Int),()),Ua h i,())) (λi k=>?_) ?_
 .have l:=Aq h i;obtain⟨m,o⟩:=Ub j l i k;unfold gk;dsimp only;rw[aU<|by omega,ae,aF (by decide),af,m,br (by omega) (by omega),ae,e7 h 0 (by omega),aa,af,o,aD (by omega),af,br (by omega) (by omega),ae,
   e7 _ 0 (by omega),aa,aa,aa,cX,aT (by omega),pI]
  rfl
 .unfold gk;dsimp only;rw[aD<|by omega,af,dG];rfl
def sha(s:aq):List Int:=Ua (x5 (pad s)<|(pad s).length / 64) 32
theorem oJ(s:aq):(sha s).length=32:=Aq _ _
theorem WI(s:aq)(a:s.length<=1048576):vy (s,())=some (sha s,()):=by
 have b:zs s.length<64:=w9 _ (by decide);unfold vy;rw[NX,aa];dsimp only;rw[Z0 s a,aa,WH _ (Yq s) (by rw[Dn];omega),aa,Yr,aeH _ (yw _ _),aa];dsimp only[sha]
theorem Z1(s:aq)(r:s.length<=1152921504606840000)(b:Dm)(d:Inv b (s++[128])):∃a,Loop ej ((),b,())=some ((),a,())/\Inv a (s++[128]++List.replicate (zs s.length) 0):=by
 have t:zs s.length<64:=w9 _ (by decide);have key:∀(m j:Nat) (b:Dm),j+m=zs s.length->Inv b (s++[128]++List.replicate j 0)->∃a,Loop ej ((),b,())=some ((),a,())/\Inv a (s++[128]++List.replicate (zs s.length) 0):=by
  intro m;induction m with
  | zero =>
    intro j b g d;obtain rfl:j=zs s.length:=by omega
    refine⟨b,?_,d⟩;obtain⟨c,rfl,i,k⟩:=d;rw[aR];have:ej ((),((decide<|64<=(s++[128]++List.replicate (zs s.length) 0).length,(if 64<=(s++[128]++List.replicate (zs s.length) 0).length then x5 (s++[128]++List.replicate (zs s.length) 0) ((s++[128]++List.replicate (zs s.length) 0).length / 64) else fw 8),()),c,((s++[128]++List.replicate (zs s.length) 0).length:Int),()),())=some (.inr ((),((decide<|64<=(s++[128]++List.replicate (zs s.length) 0).length,(if 64<=(s++[128]++List.replicate (zs s.length) 0).length then x5 (s++[128]++List.replicate (zs s.length) 0) ((s++[128]++List.replicate (zs s.length) 0).length / 64) else fw 8),()),c,((s++[128]++List.replicate (zs s.length) 0).length:Int),()),())):=by
     have l:(s++[128]++List.replicate (zs s.length) (0:UInt8)).length=s.length+1+zs s.length:=by simp;omega
     unfold ej;dsimp only;rw[aF<|by decide,af,l,show((64:Int))=((64:Nat):Int) from rfl,uM,aW (by unfold zs;omega),show nt true=false from rfl,af,dG]
    rw[this];rfl
  | succ m n =>
    intro j b g d;obtain⟨e,o,h⟩:=J1 [0] _ b d (by simp;omega);obtain⟨a,p,q⟩:=n (j+1) e (by omega) (by
     rw[oC,show List.replicate j (0:UInt8)++[0]=List.replicate (j+1) 0 from by rw[List.replicate_succ']] at h;exact h)
    refine⟨a,?_,q⟩;rw[aR];have f:b.2.2.1=((s.length+1+j:Nat):Int):=by
     obtain⟨c,rfl,i,k⟩:=d;simp;omega
    have:ej ((),b,())=some (.inl ((),e,())):=by
     unfold ej;dsimp only;rw[aF<|by decide,af,f,show((64:Int))=((64:Nat):Int) from rfl,uM,aF (by unfold zs at g;omega),show nt false=true from rfl,ae,o,aa,cX]
    rw[this];exact p
 exact key (zs s.length) 0 b (by omega) (by simpa using d)
theorem acV(n:Nat)(j:n<=1152921504606840000)(b:Dm)(a:b.2.2.1=(n:Int))(u v:ai):Loop (ff (u,b,v)) ((0,()),fw 8,())=some (((8:Int),()),Gw n,()):=by
 obtain⟨d,e,m,q⟩:=b;dsimp only at a;subst a;have step:∀(k:Nat) (c:List Int),k<8->c.length=8->ff (u,(d,e,(n:Int),q),v) (((k:Int),()),c,())=some (.inl ((((k+1:Nat):Int),()),c.set (7-k)<|dC n k,())):=by
  intro k c g l;unfold ff;dsimp only;have h:gU .i64 8 (k:Int)=((8*k:Nat):Int):=by rw[Ak (by omega)<|by omega];omega
  have i:cE .i64 7 (k:Int)=((7-k:Nat):Int):=by rw[fo (by omega)<|by omega];omega
  rw[aU<|by omega,ae,h,aD (by omega),af,i,br (by omega) (by omega),ae,e7 c 0 (by omega),aa,aa,aa,cX,aT (by omega),pI];rfl
 have:=cq (f:=ff (u,(d,e,(n:Int),q),v)) (r:=(((8:Int),()),Gw n,())) 8 (λk=>(((k:Int),()),(match k with
  | 0=>fw 8
  | 1=>[0,0,0,0,0,0,0,dC n 0]
  | 2=>[0,0,0,0,0,0,dC n 1,dC n 0]
  | 3=>[0,0,0,0,0,dC n 2,dC n 1,dC n 0]
  | 4=>[0,0,0,0,dC n 3,dC n 2,dC n 1,dC n 0]
  | 5=>[0,0,0,dC n 4,dC n 3,dC n 2,dC n 1,dC n 0]
  | 6=>[0,0,dC n 5,dC n 4,dC n 3,dC n 2,dC n 1,dC n 0]
  | 7=>[0,dC n 6,dC n 5,dC n 4,dC n 3,dC n 2,dC n 1,dC n 0]
  | _=>Gw n:List Int),())) (λk g=>by
    rcases(by omega:k=0\/k=1\/k=2\/k=3\/k=4\/k=5\/k=6\/k=7) with rfl|rfl|rfl|rfl|rfl|rfl|rfl|rfl<;>exact(step _ _ (by omega) rfl).trans rfl)
  (by
   unfold ff;dsimp only;rw[aD<|by omega,af,dG];rfl)
 exact this
theorem aeJ(s:aq)(p:s.length<=1048576)(a:Dm)(i:Inv a s)(u v:ai):mW (u,a,v)=some ((sha s,()),a,()):=by
 have q:zs s.length<64:=w9 _ (by decide);have c:a.2.2.1=(s.length:Int):=by obtain⟨b,rfl,_⟩:=i;rfl
 obtain⟨d,j,k⟩:=J1 [128] s a i (by simp;omega);obtain⟨e,l,m⟩:=Z1 s (by omega) d k;obtain⟨f,n,o⟩:=J1 (aX<|Gw s.length) _ e m (by simp[aX,Gw];omega);unfold mW;dsimp only;rw[Yr,show aX ([128]:List Int)=[128] from rfl,j,aa];dsimp only;rw[l,aa];dsimp only;rw[show([0,0,0,0,0,0,0,0]:List Int)=fw 8 from rfl,acV s.length (by omega) a c,aa,aY (by decide) (by decide) (by decide),ae];dsimp only;rw[show sub (Gw s.length) 0 (minus 8 0)=Gw s.length from rfl,n,aa];have g:Inv f (pad s):=o;obtain⟨b,rfl,r,t⟩:=g;have h:64<=(pad s).length:=by have:=Yq s;rw[Dn] at this⊢;omega
 simp only[h,HE,mh];rw[aeI _ _ (yw _ _) _ _ () () () () () (),aa];dsimp only[sha]
theorem WJ(s:aq)(b:s.length<=1048576):Bw (s,())=some (sha s,()):=by
 obtain⟨a,c,d⟩:=J1 s [] acQ ajQ (by simp;omega);unfold Bw;dsimp only;rw[show((false,([0,0,0,0,0,0,0,0]:List Int),()),([0,0,0,0,0,0,0,0,0,0,0,0,0,0,0,0,0,0,0,0,0,0,0,0,0,0,0,0,0,0,0,0,0,0,0,0,0,0,0,0,0,0,0,0,0,0,0,0,0,0,0,0,0,0,0,0,0,0,0,0,0,0,0,0]:List Int),(0:Int),())=acQ from rfl,c,aa];dsimp only;rw[aeJ s b a<|by simpa using d,aa]
abbrev ak6:=(Bool×aq×Int×ai)×Dm×Dm×ai
def WK:aq:=[48,49,50,51,52,53,54,55,56,57,97,98,99,100,101,102]
def hx(n:Nat):UInt8:=WK.getD n 0
def sB:aq->aq
 | []=>[]
 | b::r=>hx (b.toNat / 16)::hx (b.toNat % 16)::sB r
theorem r9(l:aq):(sB l).length=2*l.length:=by
 induction l with
 | nil=>rfl
 | cons b r a=>simp only[sB,dW,a];omega
theorem acW(a b:aq):sB (a++b)=sB a++sB b:=by
 induction a with
 | nil=>rfl
 | cons x r c=>simp only[zP,sB,c]
theorem aeK:∀n:Fin 256,idx WK (mQ .u8 (n.val:Int) 4)=some (hx<|n.val / 16):=by decide +kernel
theorem aeL:∀n:Fin 256,idx WK (jQ .u8 (n.val:Int) 15)=some (hx<|n.val % 16):=by decide +kernel
theorem agt(b:UInt8):idx WK (mQ .u8 (u8 b) 4)=some (hx<|b.toNat / 16):=aeK ⟨b.toNat,b.toNat_lt⟩
theorem agu(b:UInt8):idx WK (jQ .u8 (u8 b) 15)=some (hx<|b.toNat % 16):=aeL ⟨b.toNat,b.toNat_lt⟩
theorem xG(s:aq){k:Nat}(h:k<s.length):idx (av s) (k:Int)=some (u8 s[k]):=by
 rw[vw];simp[av,u8,h]
theorem BA(s:aq){k:Nat}(h:k<s.length):idx s (k:Int)=some s[k]:=by
 rw[vw];simp[h]
theorem j7(s:aq):len (av s)=(s.length:Int):=by simp[len,av]
theorem Rs(s:aq){k:Nat}(h:k<s.length):s.take (k+1)=s.take k++[s[k]]:=by
 rw[Qk,jE h];rfl
theorem Ys(s:aq){k:Nat}(h:k<s.length):av (sB<|s.take<|k+1)=(av (sB<|s.take k)++[u8<|hx<|s[k].toNat / 16])++[u8<|hx<|s[k].toNat % 16]:=by
 rw[Rs s h,acW,ru,oC];rfl
theorem acX(s:aq)(a:s.length<=1048576){k:Nat}(h:k<s.length)(x y:Int) :
  fits (plus (len<|av<|sB<|s.take k)<|len [x])=true/\fits (plus (len<|av (sB<|s.take k)++[x])<|len [y])=true:=by
 constructor
 .apply dA;rw[j7,r9];simp only[gM,plus,len,dW,gi];omega
 .apply dA;have:(av (sB<|s.take k)++[x]).length=2*min k s.length+1:=by
   rw[iP,fA,r9,gM];rfl
  simp only[plus,len,this,dW,gi];omega
theorem Yt(s:aq)(b:s.length<=1048576):mX (s,())=some (sB s,()):=by
 unfold mX;dsimp only;rw[dA<|by simp only[len];omega,ae];have key:Loop (kW (s,())) ((0,()),((),(),()),[],())=some (((s.length:Int),()),((),(),()),av<|sB s,()):=by
  have:=cq (f:=kW (s,())) (r:=(((s.length:Int),()),((),(),()),av<|sB s,())) s.length (λk=>(((k:Int),()),((),(),()),av<|sB<|s.take k,())) (λk a=>by
   unfold kW;dsimp only;obtain⟨c,d⟩:=acX s b a (u8<|hx<|s[k].toNat / 16) (u8<|hx<|s[k].toNat % 16);rw[j7,aU (by omega),ae,br (by omega) (by omega),ae,xG s a,aa,aD (by decide),af];rw[show([48,49,50,51,52,53,54,55,56,57,97,98,99,100,101,102]:aq)=WK from rfl,agt,aa,c,ae,agu,aa];unfold app;rw[d,ae,cX,aT (by omega),Ys s a]) (by
   unfold kW;dsimp only;rw[j7,aD (by omega),af,dG,Iw])
  exact this
 rw[key,aa];dsimp only;rw[oo]
theorem ajS:∀n:Fin 16,lJ ((n.val:Int),())=some (u8<|hx n.val,()):=by decide +kernel
theorem J2{n:Nat}(h:n<16):lJ ((n:Int),())=some (u8<|hx n,()):=ajS ⟨n,h⟩
theorem acY:∀n:Fin 256,Ix .i64 (kq .i64 (n.val:Int)) 16=((n.val / 16:Nat):Int):=by decide +kernel
theorem acZ:∀n:Fin 256,iA (kq .i64 (n.val:Int)) 16=((n.val % 16:Nat):Int):=by decide +kernel
theorem agv(b:UInt8):Ix .i64 (kq .i64<|u8 b) 16=((b.toNat / 16:Nat):Int):=acY ⟨b.toNat,b.toNat_lt⟩
theorem agw(b:UInt8):iA (kq .i64<|u8 b) 16=((b.toNat % 16:Nat):Int):=acZ ⟨b.toNat,b.toNat_lt⟩
theorem WL(s:aq)(b:s.length<=1048576):vz (s,())=some (sB s,()):=by
 unfold vz;have key:Loop (mA (s,())) (((),0,()),[],())=some (((),(s.length:Int),()),av<|sB s,()):=by
  have:=cq (f:=mA (s,())) (r:=(((),(s.length:Int),()),av<|sB s,())) s.length (λk=>(((),(k:Int),()),av<|sB<|s.take k,())) (λk a=>by
   unfold mA;dsimp only;obtain⟨c,d⟩:=acX s b a (u8<|hx<|s[k].toNat / 16) (u8<|hx<|s[k].toNat % 16);have e:=s[k].toNat_lt;rw[show len s=(s.length:Int) from rfl,aU (by omega),ae,BA s a,aa,aF (by decide),af,agv,J2 (by omega),aa];dsimp only;rw[c,ae,aa,af,agw,J2 (by omega),aa];dsimp only;unfold app;rw[d,ae,cX,aT (by omega),Ys s a]) (by
   unfold mA;dsimp only;rw[show len s=(s.length:Int) from rfl,aD (by omega),af,dG,Iw])
  exact this
 rw[key,aa];dsimp only;rw[oo]
def hv(c:UInt8):Int:=Lib.indexByte WK c
theorem hvT:∀n:Fin 256,(hv (UInt8.ofNat n.val)=-1/\∀j:Fin 16,hx j.val≠UInt8.ofNat n.val)\/∃j:Fin 16,hv (UInt8.ofNat n.val)=(j.val:Int)/\hx j.val=UInt8.ofNat n.val/\∀i:Fin 16,i.val<j.val->hx i.val≠UInt8.ofNat n.val:=by decide +kernel
theorem LQ(c:UInt8):(hv c=-1/\∀j:Nat,j<16->hx j≠c)\/∃j:Nat,j<16/\hv c=(j:Int)/\hx j=c/\∀i:Nat,i<j->hx i≠c:=by
 have h:=hvT ⟨c.toNat,c.toNat_lt⟩;have e:UInt8.ofNat c.toNat=c:=by simp
 simp only[e] at h;rcases h with ⟨a,b⟩|⟨j,a,b,f⟩
 .exact .inl ⟨a,λj g=>b ⟨j,g⟩⟩
 .exact .inr ⟨j.val,j.isLt,a,b,λi d=>f ⟨i,Nat.lt_trans d j.isLt⟩ d⟩
theorem afQ:∀n:Fin 16,hv (hx n.val)=(n.val:Int):=by decide +kernel
theorem WM{a b:UInt8}(h:u8 a=u8 b):a=b:=by
 have:a.toNat=b.toNat:=by unfold u8 at h;omega
 exact SL.1 this
theorem PL(c:UInt8):nQ (u8 c,())=some (hv c,()):=by
 unfold nQ;have step:∀(r k:Nat),k<16->hx k≠c->ea (u8 c,()) (((r:Int),(k:Int),()),())=some (.inl (((r:Int),((k+1:Nat):Int),()),())):=λr k a b=>by
  unfold ea;dsimp only;rw[aU<|by omega,ae,J2 a,aa,aF (λe=>b (WM e)),af,aT (by omega)]
 rcases LQ c with ⟨d,g⟩|⟨j,h,d,g,i⟩
 .have:=cq (f:=ea (u8 c,())) (r:=(0,(((0:Nat):Int),((16:Nat):Int),()),())) 16 (λk=>((((0:Nat):Int),(k:Int),()),())) (λk a=>step 0 k a (g k a)) (by
   unfold ea;dsimp only;rw[aD<|by decide,af])
  rw[show Loop (ea (u8 c,())) ((0,0,()),())=_ from this,aa];dsimp only;rw[show cR 0 0=true from rfl,ae,d]
 .have:=cq (f:=ea (u8 c,())) (r:=(1,((j:Int),(j:Int),()),())) j (λk=>((((0:Nat):Int),(k:Int),()),())) (λk a=>step 0 k (by omega) (i k a)) (by
   unfold ea;dsimp only;rw[aU<|by omega,ae,J2 h,aa,aW (by rw[g]),ae])
  rw[show Loop (ea (u8 c,())) ((0,0,()),())=_ from this,aa];dsimp only;rw[show cR 1 0=false from rfl,af,d]
def oK:aq->Option aq
 | []=>some []
 | [_]=>none
 | a::b::r=>if hv a<0\/hv b<0 then none else(oK r).map (UInt8.ofNat (16*(hv a).toNat+(hv b).toNat)::·)
theorem ahU:∀(i j:Fin 16),kq .u8 (ax .i64 (gU .i64 16 (i.val:Int)) (j.val:Int))=u8 (UInt8.ofNat<|16*i.val+j.val):=by decide +kernel
theorem Uc(l:aq)(k:Nat)(h:k<=l.length):sub l (k:Int) (minus (len l) (k:Int))=l.drop k:=by
 unfold sub minus len;rw[rK,zN (by rw[ma];omega)]
def ans:Option aq->aq×Bool×ai
 | some l=>(l,true,())
 | none=>([],false,())
theorem WN:∀(n:Nat) (s:aq),s.length<=n->s.length % 2=1->oK s=none:=by
 intro n;induction n using Nat.strongRecOn with
 | _ n d =>
   intro s c h
   match s,c,h with
   | [],_,h=>simp at h
   | [_],_,_=>rfl
   | a::b::r,c,h =>
     simp only[dW] at c h;simp only[oK];split
     .rfl
     .rw[d r.length (by omega) r (cD _)<|by omega];rfl
theorem uN{a b:Nat}(h:a+b<4611686018427387904):ax .i64 (a:Int) (b:Int)=((a+b:Nat):Int):=by
 rw[fE (by omega)<|by omega];omega
theorem NY(s:aq)(z:s.length<=1048576):∀(n i:Nat) (acc:List Int),s.length-i<=n->i<=s.length->(s.length-i) % 2=0->acc.length<=i ->
  ∃q,Loop (gP (s,())) ((([]:aq),false,(),(i:Int),()),acc,())=some q/\(match oK (s.drop i) with
   | some l=>q.1=0/\q.2.2.1=acc++av l
   | none=>q.1=1/\q.2.1.1=[]/\q.2.1.2.1=false):=by
 intro n;induction n using Nat.strongRecOn with
 | _ n t =>
   intro i acc A B C D;rw[aR];by_cases d:i<s.length
   .have o:i+1<s.length:=by omega
    have hd:s.drop i=s[i]::s[i+1]::s.drop (i+2):=by
     rw[BJ d,BJ o]
    rw[hd];generalize u:s[i]=a;generalize m:s[i+1]=b;have e0:gP (s,()) ((([]:aq),false,(),(i:Int),()),acc,())=(if hv a<0\/hv b<0 then some (.inr (1,([],false,(),(i:Int),()),acc,()))
      else some (.inl ((([]:aq),false,(),((i+2:Nat):Int),()),acc++[u8<|UInt8.ofNat<|16*(hv a).toNat+(hv b).toNat],()))):=by
     unfold gP;dsimp only;rw[aT<|by omega,aU (by simp only[len];omega),ae,BA s d,aa,u,PL,aa,BA s o,aa,m,PL,aa];dsimp only;by_cases e:hv a<0
     .rw[aU e,aH,af,ae,bd (.inl e)]
     .rw[aD<|by omega,aA,ae];by_cases f:hv b<0
      .rw[aU f,ae,bd (.inr f)]
      .rw[aD<|by omega,af,bb (by omega)];have v:kq .u8 (ax .i64 (gU .i64 16<|hv a)<|hv b)=u8 (UInt8.ofNat<|16*(hv a).toNat+(hv b).toNat):=by
        rcases LQ a with ⟨h,_⟩|⟨j,w,h,_⟩
        .omega
        rcases LQ b with ⟨p,_⟩|⟨k,x,p,_⟩
        .omega
        rw[h,p];exact ahU ⟨j,w⟩ ⟨k,x⟩
       rw[v,dA (by simp only[plus,len,dW,gi];omega),ae,show ax .i64 (i:Int) 2=((i+2:Nat):Int) from uN (b:=2) (by omega)];rfl
    rw[e0];by_cases c:hv a<0\/hv b<0
    .rw[bd c];refine⟨_,rfl,?_⟩;simp only[oK,bd c];exact⟨trivial,trivial,trivial⟩
    .rw[bb c];obtain⟨q,y,g⟩:=t (s.length-(i+2)) (by omega) (i+2) (acc++[u8<|UInt8.ofNat<|16*(hv a).toNat+(hv b).toNat]) (cD _) (by omega) (by omega) (by simp only[iP,dW,gi];omega);refine⟨q,y,?_⟩;simp only[oK,bb c];cases r:oK (s.drop<|i+2) with
     | none=>rw[r] at g;exact g
     | some l =>
       rw[r] at g;refine⟨g.1,?_⟩;rw[g.2,oC];rfl
   .have:i=s.length:=by omega
    subst this;rw[SJ];refine⟨(0,([],false,(),(s.length:Int),()),acc,()),?_,rfl,by simp[av]⟩;unfold gP;dsimp only;rw[aT<|by omega,aD (by simp only[len];omega),af];rfl
theorem Rt(s:aq)(c:s.length<=1048576):nR (s,())=some (ans<|oK s):=by
 unfold nR;dsimp only;rw[aF<|by decide,af,show iA (len s) 2=((s.length % 2:Nat):Int) from uM s.length 2];rcases Nat.mod_two_eq_zero_or_one s.length with h|h
 .rw[h,show aL ((0:Nat):Int) 1=false from rfl,af];obtain⟨q,d,a⟩:=NY s c s.length 0 [] (by omega) (by omega) (by simpa using h) (by simp);rw[show Loop (gP (s,())) (([],false,(),0,()),[],())=some q from d,aa];rw[CT] at a;cases b:oK s with
  | none =>
    rw[b] at a;rw[a.1,show cR 1 0=false from rfl,af,a.2.1,a.2.2];rfl
  | some l =>
    rw[b] at a;rw[a.1,show cR 0 0=true from rfl,ae,a.2,wY,oo];rfl
 .rw[h,show aL ((1:Nat):Int) 1=true from rfl,ae,WN s.length s (cD _) h];rfl
theorem Z2:∀l:aq,oK (sB l)=some l:=by
 intro l;induction l with
 | nil=>rfl
 | cons b r d =>
   have e:=b.toNat_lt;have a:=afQ ⟨b.toNat / 16,by omega⟩;have c:=afQ ⟨b.toNat % 16,by omega⟩;simp only at a c;simp only[sB,oK,a,c,d,FT];rw[bb<|by omega]
   congr 2
   rw[rK,rK,show 16*(b.toNat / 16)+b.toNat % 16=b.toNat by omega];simp
def WO:aq:=[115,104,97,50,53,54,58]
def nd(s:aq):aq:=WO++sB (aX<|sha s)
theorem H8(s:aq):(nd s).length=71:=by
 unfold nd;rw[iP,r9];simp[aX,oJ,WO]
theorem PM{a:Type}(l:List a)(n:Nat)(h:l.length=n):sub l 0 (minus n 0)=l:=by
 unfold sub minus;rw[show((0:Int).toNat)=0 from rfl,CT,zN (by omega)]
theorem agx(s:aq)(a:s.length<=1048576):oY (s,())=some (nd s,()):=by
 unfold oY;dsimp only;rw[WJ s a,aa,aY (by decide) (by decide) (by decide),ae];dsimp only;rw[show sub (sha s) 0 (minus 32 0)=sha s from PM _ 32 (oJ s),Yt _ (by simp[aX,oJ]),aa];dsimp only;rw[dA<|by simp only[plus,len,r9,aX,CS,oJ,dW,gi];omega,ae];rfl
theorem Z3(s:aq)(a:s.length<=1048576):qG (s,())=some (nd s,()):=by
 unfold qG;dsimp only;rw[WI s a,aa,aY (by decide) (by decide) (by decide),ae];dsimp only;rw[show sub (sha s) 0 (minus 32 0)=sha s from PM _ 32 (oJ s),WL _ (by simp[aX,oJ]),aa];dsimp only;rw[dA<|by simp only[plus,len,r9,aX,CS,oJ,dW,gi];omega,ae];rfl
def aeM(t:aq):Int:=if t.length=71/\t.take 7=WO/\(oK<|t.drop 7).isSome=true then 0 else 2
theorem LR(l:aq)(k:Nat):sub l 0 (minus (k:Int) 0)=l.take k:=by
 unfold sub minus;rw[show((0:Int).toNat)=0 from rfl,CT,Int.sub_zero,rK]
theorem Ru(t:aq)(b:t.length<=1048576):eV (t,())=some (aeM t,()):=by
 unfold eV aeM;dsimp only;by_cases a:t.length=71
 .rw[aW<|by simp only[len];omega,aH,aA,ae,aY (by decide) (by decide) (by simp only[len];omega),ae,aa,
   show sub t 0 (minus 7 0)=t.take 7 from LR t 7,show([115,104,97,50,53,54,58]:aq)=WO from rfl]
  by_cases h:t.take 7=WO
  .rw[h,rW,aH,af,aY (by decide) (by simp only[len];omega) (DY _),ae,
    show sub t 7 (minus (len t) 7)=t.drop 7 from Uc t 7 (by omega),Rt _ (by rw[ma];omega),aa]
   cases c:oK (t.drop 7) with
   | none =>
     rw[bb<|by simp];show aj (nt false) (some (2,())) _=_
     rw[aA,ae]
   | some l =>
     show aj (nt true) _ _=_
     rw[aH,af,bd ⟨a,rfl,rfl⟩]
  .rw[show bz (t.take 7) WO=false from dL h,aA,ae,bb λe=>h e.2.1]
 .rw[aF<|by simp only[len];omega,aA,aH,af,aa,ae,bb λe=>a e.1]
theorem Z4(s:aq):(nd s).take 7=WO:=HD rfl
theorem Z5(s:aq):(nd s).drop 7=sB (aX<|sha s):=HB rfl
theorem WQ(s:aq):aeM (nd s)=0:=by
 have a:(oK<|(nd s).drop 7).isSome=true:=by
  rw[Z5,Z2];rfl
 exact bd ⟨H8 s,Z4 s,a⟩
def ajT(n k:Nat):UInt8:=UInt8.ofNat (48+n / 8 ^ k % 8)
def WR(n:Nat):Nat->aq
 | 0=>[]
 | k+1=>ajT n k::WR n k
set_option maxRecDepth 100000
def cc(p:UInt8->Bool)(s:aq):aq:=(s.reverse.dropWhile p).reverse
theorem uO{p:UInt8->Bool}(s:aq){x:UInt8}(h:p x=true):cc p (s++[x])=cc p s:=by
 simp[cc,Ki,h]
theorem wx{p:UInt8->Bool}(s:aq){x:UInt8}(h:p x=false):cc p (s++[x])=s++[x]:=by
 simp[cc,Ki,h]
theorem PN{p:UInt8->Bool}:∀(z s:aq),(∀x∈z,p x=true)->cc p (s++z)=cc p s:=by
 intro z;induction z with
 | nil=>intro s _;rw[wX]
 | cons x r a =>
   intro s h;rw[show s++x::r=(s++[x])++r by simp,a (s++[x]) (λy b=>h y (oA _ b)),uO s (h x<|oB ..)]
theorem ac0{p:UInt8->Bool}{s:aq}(h:∀x,s.getLast?=some x->p x=false):cc p s=s:=by
 rcases XD s with rfl|⟨r,x,rfl⟩
 .rfl
 .have:=h x (by simp);rw[aa7];exact wx r this
theorem Ud(r:aq)(x:UInt8)(a:r.length<=1048576):cE .i64 (len<|r++[x]) 1=(r.length:Int)/\idx (r++[x]) (r.length:Int)=some x:=by
 constructor
 .have:len (r++[x])=((r.length+1:Nat):Int):=by simp[len]
  rw[this,fo (by omega) (by omega)];omega
 .rw[vw];simp
theorem NZ(c:Int):∀(n:Nat) (s:aq),s.length<=n->s.length<=1048576->∀q:aq,Loop (e8 (q,c,())) ((s,()),())=some ((cc (λx=>aL (u8 x) c) s,()),()):=by
 intro n;induction n with
 | zero =>
   intro s h _ q;obtain rfl:s=[]:=vY.1 (by omega);rw[aR];rfl
 | succ n b =>
   intro s h a q;rcases XD s with rfl|⟨r,x,rfl⟩
   .rw[aR];rfl
   .rw[aa7] at h a⊢;rw[iP] at h a;simp only[dW,gi] at h a;obtain⟨d,e⟩:=Ud r x (by omega);rw[aR];have e0:e8 (q,c,()) ((r++[x],()),())=if aL (u8 x) c=true then some (.inl ((r,()),())) else some (.inr ((r++[x],()),())):=by
     unfold e8;dsimp only;rw[aU<|by simp only[len,iP,dW,gi];omega,ae,d,e,aa,aa];cases hx:aL (u8 x) c with
     | true =>
       rw[ae,aY (by omega) (by omega) (by simp only[len,iP];omega),ae,cX,show sub (r++[x]) 0 (minus (r.length:Int) 0)=r from by rw[LR];simp,bd rfl]
     | false=>rw[af,dG,bb (by simp)]
    rw[e0];cases hx:aL (u8 x) c with
    | true =>
      rw[bd rfl,uO r (p:=λx=>aL (u8 x) c) hx];exact b r (by omega) (by omega) q
    | false =>
      rw[bb<|by simp,wx r (p:=λx=>aL (u8 x) c) hx];rfl
theorem vC(s:aq)(c:Int)(a:s.length<=1048576):eK (s,c,())=some (cc (λx=>aL (u8 x) c) s,()):=by
 unfold eK;rw[NZ c s.length s (cD _) a s,aa]
def b4(x:UInt8):Bool:=aL (u8 x) 0
theorem xH(x:UInt8):b4 x=true↔x=0:=by
 unfold b4 aL;rw[XG];constructor
 .intro h;exact WM (a:=x) (b:=0) h
 .rintro rfl;rfl
theorem N0(s:aq)(a:s.length<=1048576):ek (s,[0],())=some (cc b4 s,()):=by
 unfold ek;dsimp only;by_cases h:s=[]
 .subst h;rfl
 .rw[show bz s []=false from dL h,aA,ae,show bz [0] []=false from rfl,af,show aL (len ([0]:aq)) 1=true from rfl,ae,show idx ([0]:aq) 0=some 0 from rfl,aa,aa,show aO (u8 0) 128=true from rfl,ae,aa,
   vC s _ a,aa]
  rfl
def sa:List Bool:=((List.replicate 256 false).set 0 true).set 32 true
def vg(x:UInt8):Bool:=sa.getD x.toNat false
theorem Rv:sa.length=256:=by simp only[sa,List.length_set,Sy]
theorem agy:∀n:Fin 256,sa.getD n.val false=(decide (n.val=0)||decide (n.val=32)):=by decide +kernel
theorem Ue(x:UInt8):vg x=true↔x=0\/x=32:=by
 unfold vg;rw[agy ⟨x.toNat,x.toNat_lt⟩];simp only[x7,XG];constructor
 .rintro(h|h)
  .exact .inl (SL.1 h)
  .exact .inr (SL.1 h)
 .rintro(rfl|rfl)
  .exact .inl rfl
  .exact .inr rfl
theorem Rw(x:UInt8):cj ((u8 x,()),sa,())=some ((vg x,()),sa,()):=by
 unfold cj;have hx:=x.toNat_lt;have e:u8 x=(x.toNat:Int):=rfl;dsimp only;rw[e,br (by omega) (by omega),ae,e7 sa false (i:=x.toNat) (by show _<sa.length;rw[Rv];omega),aa];rfl
theorem Uf:dh ([0,32],())=some (sa,true,()):=by
 unfold dh;have key:Loop (bL ([0,32],())) ((false,0,()),List.replicate 256 false,())=some (0,(false,2,()),sa,()):=by
  rw[aR,show bL ([0,32],()) ((false,0,()),List.replicate 256 false,())=some (.inl ((false,1,()),(List.replicate 256 false).set 0 true,())) from rfl];show Loop (bL ([0,32],())) ((false,1,()),(List.replicate 256 false).set 0 true,())=_
  rw[aR,show bL ([0,32],()) ((false,1,()),(List.replicate 256 false).set 0 true,())=some (.inl ((false,2,()),sa,())) from rfl];show Loop (bL ([0,32],())) ((false,2,()),sa,())=_
  rw[aR];rfl
 exact(congrArg (ab · _) key).trans rfl
theorem Ug:∀(n:Nat) (s:aq),s.length<=n->s.length<=1048576->Loop bU ((s,()),sa,())=some ((cc vg s,()),sa,()):=by
 intro n;induction n with
 | zero =>
   intro s h _;obtain rfl:s=[]:=vY.1 (by omega);rw[aR];rfl
 | succ n b =>
   intro s h a;rcases XD s with rfl|⟨r,x,rfl⟩
   .rw[aR];rfl
   .rw[aa7] at h a⊢;rw[iP] at h a;simp only[dW,gi] at h a;obtain⟨c,d⟩:=Ud r x (by omega);rw[aR];have e0:bU ((r++[x],()),sa,())=if vg x=true then some (.inl ((r,()),sa,())) else some (.inr ((r++[x],()),sa,())):=by
     unfold bU;dsimp only;rw[aU<|by simp only[len,iP,dW,gi];omega,ae,c,d,aa,Rw,aa];dsimp only;cases hx:vg x with
     | true =>
       rw[aH,af,aY (by omega) (by omega) (by simp only[len,iP];omega),ae,cX,show sub (r++[x]) 0 (minus (r.length:Int) 0)=r from by rw[LR];simp,bd rfl]
     | false=>rw[aA,ae,dG,bb (by simp)]
    rw[e0];cases hx:vg x with
    | true =>
      rw[bd rfl,uO r hx];exact b r (by omega) (by omega)
    | false =>
      rw[bb<|by simp,wx r hx];rfl
theorem EZ(s:aq)(a:s.length<=1048576):ek (s,[0,32],())=some (cc vg s,()):=by
 unfold ek;dsimp only;by_cases h:s=[]
 .subst h;rfl
 .rw[show bz s []=false from dL h,aA,ae,show bz [0,32] []=false from rfl,af,show aL (len ([0,32]:aq)) 1=false from rfl,af,aa,af,Uf,aa];dsimp only;rw[ae];unfold dB;dsimp only;rw[Ug s.length s (cD _) a];rfl
theorem N3(c:Int):∀(n:Nat) (s:aq),s.length<=n->∀q:aq,Loop (fj (q,c,())) ((s,()),())=some ((s.dropWhile<|λx=>aL (u8 x) c,()),()):=by
 intro n;induction n with
 | zero =>
   intro s h q;obtain rfl:s=[]:=vY.1 (by omega);rw[aR];rfl
 | succ n a =>
   intro s h q;cases s with
   | nil=>rw[aR];rfl
   | cons x r =>
     simp only[dW] at h;rw[aR];have e0:fj (q,c,()) ((x::r,()),())=if aL (u8 x) c=true then some (.inl ((r,()),())) else some (.inr ((x::r,()),())):=by
      unfold fj;dsimp only;rw[aU<|by simp only[len,dW];omega,ae,show idx (x::r) 0=some x from rfl,aa,aa];cases hx:aL (u8 x) c with
      | true =>
        rw[ae,aY (by decide) (by simp only[len,dW];omega) (DY _),ae,cX,show sub (x::r) 1 (minus (len (x::r)) 1)=r from Uc (x::r) 1 (by simp),bd rfl]
      | false=>rw[af,dG,bb (by simp)]
     rw[e0,Ki];cases hx:aL (u8 x) c with
     | true =>
       rw[bd rfl,bd rfl];exact a r (by omega) q
     | false =>
       rw[bb<|by simp,bb (by simp)];rfl
theorem Gx(s:aq)(c:Int):gu (s,c,())=some (s.dropWhile<|λx=>aL (u8 x) c,()):=by
 unfold gu;rw[N3 c s.length s (cD _) s,aa]
theorem Gy{p:UInt8->Bool}{l:aq}{x:UInt8}(h:x∈l.takeWhile p):p x=true:=va.1 List.all_takeWhile x h
theorem Uh(s:aq)(a:s.length<=1048576):gZ (s,[0],())=some ((cc b4 s).dropWhile b4,()):=by
 unfold gZ;dsimp only;by_cases h:s=[]
 .subst h;rfl
 .rw[show bz s []=false from dL h,aA,ae,show bz [0] []=false from rfl,af,show aL (len ([0]:aq)) 1=true from rfl,ae,show idx ([0]:aq) 0=some 0 from rfl,aa,aa,show aO (u8 0) 128=true from rfl,ae,aa,
   vC s _ a,aa,aa,Gx,aa]
  rfl
theorem uP(s:aq):(cc b4 s).dropWhile b4=[]↔∀x∈s,x=0:=by
 constructor
 .intro h;have e:∀x∈cc b4 s,b4 x=true:=by
   intro x a;have:=Kf (p:=b4) (l:=cc b4 s);rw[h,wX] at this;rw[<-this] at a;exact Gy a
  have b:cc b4 s=[]:=by
   rcases XD (cc b4 s) with b|⟨r,x,b⟩
   .exact b
   .exfalso;have a:=e x (by rw[b];simp);unfold cc at b;have c:(s.reverse.dropWhile b4)=x::r.reverse:=by
     have:=congrArg List.reverse b;simpa using this
    have:=List.head?_dropWhile_not b4 s.reverse;rw[c] at this;simp[a] at this
  intro x a;have c:s.reverse.dropWhile b4=[]:=by
   have:=congrArg List.reverse b;simpa [cc] using this
  have:=Kf (p:=b4) (l:=s.reverse);rw[c,wX] at this;have d:x∈s.reverse:=XM.2 a;rw[<-this] at d;exact(xH x).1 (Gy d)
 .intro h;have:cc b4 s=[]:=by
   have:=PN (p:=b4) s [] (λx a=>(xH x).2 (h x a));rw[wY] at this;exact this
  rw[this];rfl
theorem LS(b:aq)(c:b.length<=1048576):rf (b,())=some (decide (b.length=512/\∀x∈b,x=0),()):=by
 unfold rf;dsimp only;by_cases h:b.length=512
 .rw[aW<|by simp only[len];omega,ae,Uh b c,aa,aa]
  congr 2
  unfold bz;dsimp only;by_cases a:∀x∈b,x=0
  .rw[cd<|(uP b).2 a,cd ⟨h,a⟩]
  .rw[dL<|λe=>a ((uP b).1 e),dL λe=>a e.2]
 .rw[aF<|by simp only[len];omega,af,aa,dL λe=>h e.1]
end Go.Ge
namespace Go.Ge
variable [Lp]
theorem afR:∀d:Fin 8,kq .i64 (cE .u8 ((48+d.val:Nat):Int) 48)=(d.val:Int):=by decide +kernel
theorem ajU{v d:Nat}(a:d<8)(g:8*v+d<9223372036854775808):xc .i64 (lS .i64 (v:Int) 3) (kq .i64<|cE .u8 ((48+d:Nat):Int) 48)=((8*v+d:Nat):Int):=by
 rw[afR ⟨d,a⟩];have b:lS .i64 (v:Int) 3=((8*v:Nat):Int):=by
  unfold lS;rw[show min (Int.toNat 3) IntKind.i64.bits=3 from rfl,show(v:Int)*2 ^ 3=((8*v:Nat):Int) by omega];exact Bu (by omega) (by omega)
 rw[b];unfold xc;have e:(BitVec.ofInt IntKind.i64.bits ((8*v:Nat):Int) ||| BitVec.ofInt IntKind.i64.bits (d:Int)).toNat=8*v+d:=by
  rw[BitVec.toNat_or];have c:(BitVec.ofInt IntKind.i64.bits ((8*v:Nat):Int)).toNat=2 ^ 3*v:=by
   rw[abe,show(IntKind.i64.bits)=64 from rfl];omega
  have f:(BitVec.ofInt IntKind.i64.bits (d:Int)).toNat=d:=by
   rw[abe,show(IntKind.i64.bits)=64 from rfl];omega
  rw[c,f,<-Nat.two_pow_add_eq_or_of_lt a]
 rw[e];exact Bu (by omega) (by omega)
def xI(s:aq):Prop:=∀x∈s,x≠0
instance (s:aq):Decidable (xI s):=inferInstanceAs (Decidable (∀x∈s,x≠0))
theorem PO:∀s:aq,decide (Lib.indexByte s 0<0)=decide (xI s):=by
 intro s;induction s with
 | nil=>rfl
 | cons b r c =>
   unfold Lib.indexByte;by_cases e:b=0
   .subst e;rw[bd<|by rfl,dL (by decide),dL λh=>h 0 (oB ..) rfl]
   .rw[bb<|by simpa using e];by_cases d:xI r
    .rw[cd d] at c;have f:Lib.indexByte r 0<0:=kx c;have i:=(zh 0 r).1;have g:Lib.indexByte r 0=-1:=by omega
     rw[g,bd (by rfl),cd (by decide),cd];intro x a;rcases fY.1 a with rfl|a
     .exact e
     .exact d x a
    .rw[dL d] at c;have f:¬Lib.indexByte r 0<0:=SF c;rw[bb<|by simp only[XU];omega,dL (by omega),dL];intro h;exact d λx a=>h x (oA _ a)
theorem E0(s:aq):fg (s,0,())=some (Lib.indexByte s 0,()):=rfl
theorem E1(s:aq)(a:s.length<=1048576):jw (s,())=some (cc b4 s,decide<|xI<|cc b4 s,()):=by
 unfold jw;dsimp only;rw[N0 s a,aa];dsimp only;rw[E0,aa];unfold aO;dsimp only;rw[PO]
abbrev Hd:=aq×Int×Int×Int×Int×Int×Int×aq×ai
def Vq(s:aq)(a:Int):Prop:=s≠[]/\(s.length:Int)<=a/\xI s
instance (s:aq) (a:Int):Decidable (Vq s a):=inferInstanceAs (Decidable<|_/\_/\_)
def JV(n b:Int):Prop:=0<=n/\n<b
instance (n b:Int):Decidable (JV n b):=inferInstanceAs (Decidable<|_/\_)
def kindOk(h:Hd):Prop:=(h.2.1=1/\h.2.2.2.2.2.2.2.1=[])\/(h.2.1=2/\h.2.2.2.2.2.2.2.1=[]/\h.2.2.2.2.2.1=0)\/(h.2.1=3/\Vq h.2.2.2.2.2.2.2.1 100/\h.2.2.2.2.2.1=0)
instance (h:Hd):Decidable (kindOk h):=inferInstanceAs (Decidable<|_\/_\/_)
def I4(h:Hd)(a:Int):Prop:=JV h.2.2.1 2097152/\JV h.2.2.2.1 2097152/\JV h.2.2.2.2.1 2097152/\JV h.2.2.2.2.2.1 8589934592/\JV h.2.2.2.2.2.2.1 8589934592/\Vq h.1 a/\kindOk h
instance (h:Hd) (a:Int):Decidable (I4 h a):=inferInstanceAs (Decidable<|_/\_/\_/\_/\_/\_/\_)
theorem Dp(n b:Int):kr (n,b,())=some (decide<|JV n b,()):=by
 unfold kr;dsimp only;by_cases h:0<=n
 .rw[cr h,ae];unfold aO JV
  congr 2
  simp[h]
 .rw[eu<|by omega,af,dL λe=>h e.1]
theorem PQ(s:aq)(m:Int):mB (s,m,())=some (decide<|Vq s m,()):=by
 unfold mB;dsimp only;by_cases h:s=[]
 .subst h;rw[show bz [] []=true from rfl,aH,af,af,aa,dL λe=>e.1 rfl]
 .rw[show bz s []=false from dL h,aA,ae];by_cases a:(s.length:Int)<=m
  .rw[cr<|by simp only[len];exact a,ae,E0,aa,aa];unfold aO;dsimp only;rw[PO]
   congr 2
   unfold Vq;simp[h,a]
  .rw[eu<|by simp only[len];omega,af,aa,dL λe=>a e.2.1]
theorem Ui(h:Hd)(m:Int):oZ (h,m,())=some (decide<|I4 h m,()):=by
 unfold oZ;dsimp only;by_cases d:JV h.2.2.1 2097152
 case neg=>rw[Dp,aa,dL d,af,aa,af,aa,af,aa,af,aa,aA,aH,af,aa,ae,dL λe=>d e.1]
 rw[Dp,aa,cd d,ae,Dp,aa,aa];by_cases f:JV h.2.2.2.1 2097152
 case neg=>rw[dL f,af,aa,af,aa,af,aa,aA,aH,af,aa,ae,dL λe=>f e.2.1]
 rw[cd f,ae,Dp,aa,aa];by_cases g:JV h.2.2.2.2.1 2097152
 case neg=>rw[dL g,af,aa,af,aa,aA,aH,af,aa,ae,dL λe=>g e.2.2.1]
 rw[cd g,ae,Dp,aa,aa];by_cases i:JV h.2.2.2.2.2.1 8589934592
 case neg=>rw[dL i,af,aa,aA,aH,af,aa,ae,dL λe=>i e.2.2.2.1]
 rw[cd i,ae,Dp,aa,aa];by_cases j:JV h.2.2.2.2.2.2.1 8589934592
 case neg=>rw[dL j,aA,aH,af,aa,ae,dL λe=>j e.2.2.2.2.1]
 rw[cd j,aH,aA,ae,PQ,aa,aa];by_cases k:Vq h.1 m
 case neg=>rw[dL k,aA,ae,dL λe=>k e.2.2.2.2.2.1]
 rw[cd k,aH,af];have n:decide (I4 h m)=decide (kindOk h):=ky.2 ⟨λe=>e.2.2.2.2.2.2,λe=>⟨d,f,g,i,j,k,e⟩⟩;rw[n];by_cases l:h.2.1=1
 .rw[l,nO,ae];unfold bz;rw[show decide (h.2.2.2.2.2.2.2.1=[])=decide (kindOk h) from ky.2 (by unfold kindOk;simp[l])]
 .rw[aF l,af];by_cases b:h.2.1=2
  .rw[b,nO,ae];unfold bz aL;by_cases a:h.2.2.2.2.2.2.2.1=[]
   .rw[cd a,ae,show decide (h.2.2.2.2.2.1=0)=decide (kindOk h) from ky.2 (by unfold kindOk;simp[b,a])]
   .rw[dL a,af,show decide (kindOk h)=false from dL (by unfold kindOk;simp[b,a])]
  .rw[aF b,af];by_cases c:h.2.1=3
   .rw[c,nO,ae,PQ,aa];dsimp only;unfold aL;by_cases a:Vq h.2.2.2.2.2.2.2.1 100
    .rw[cd a,ae,show decide (h.2.2.2.2.2.1=0)=decide (kindOk h) from ky.2 (by unfold kindOk;simp[c,a])]
    .rw[dL a,af,show decide (kindOk h)=false from dL (by unfold kindOk;simp[c,a])]
   .rw[aF c,af,show decide (kindOk h)=false from dL (by unfold kindOk;simp[l,b,c])]
end Go.Ge
