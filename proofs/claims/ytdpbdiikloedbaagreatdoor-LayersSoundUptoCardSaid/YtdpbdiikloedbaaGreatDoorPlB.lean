/- Plain laws of what the functions compute: part 2. -/
import Derived.Test.YtdpbdiikloedbaaGreatDoorPlA
set_option linter.unusedSectionVars false
namespace Go.Ge
variable [Lp]
set_option maxRecDepth 100000
def allowed:Tx:=[97,98,99,100,101,102,103,104,105,106,107,108,109,110,111,112,113,114,115,116,117,118,119,120,121,122,48,49,50,51,52,53,54,55,56,57,46,95,45]
def LW(c:UInt8):Bool:=allowed.contains c
def jE(s:Tx):Bool:=decide (1<=s.length)&&decide (s.length<=32)&&s.all LW
def Si(a:Tx)(b:List Bool):List Bool:=(a.zipIdx).foldl (λt p=>lR t (u8 p.1) true) b
def yh:List Bool:=List.replicate 256 false
theorem af5(c:UInt8):u8 c<256:=by unfold u8;have:=c.toNat_lt;omega
theorem af6(c:UInt8):0<=u8 c:=by unfold u8;omega
theorem NB(c:UInt8):within (u8 c) 256=true:=aW (af6 c) (af5 c)
theorem aa3{t:List Bool}(h:t.length=256)(c:UInt8):idx t (u8 c)=some (t.getD c.toNat false):=lW t false (k:=c.toNat) rfl (by have:=c.toNat_lt;omega)
theorem LX(a:Tx)(k:a.length<=4294967296)(l:∀c∈a,c<128):dm (a,())=some (Si a yh,true,()):=by
 unfold dm;obtain⟨t,p,m,n⟩:=xp (f:=bR (a,())) a (λ(t:List Bool) i=>((false,i,()),t,())) (λt i x=>lR t (u8 x) true) (λt=>(0,(false,len a,()),t,())) (λt _=>t.length=256) k
  (λt i x j o b e=>by
   refine⟨?_,by simp[lR,e]⟩;unfold bR;dsimp only;have g:x<128:=l x (bp.2 ⟨i,j⟩);have d:u8 x<128:=by unfold u8;have:x.toNat<128:=g;omega
   rw[ak o,ab,ao j,aa,eF d,ae,NB,ab,aa3 e,aa,aa,aa,b])
  (λt e=>by unfold bR;dsimp only;rw[ay,ae];rfl) yh (by simp[yh])
 have h:Loop (bR (a,())) ((false,(0:Int),()),yh,())=_:=m;rw[show(List.replicate 256 false:List Bool)=yh from rfl,h,aa];show some (t,true,())=_
 rw[n];rfl
theorem aeJ(c:UInt8):(Si allowed yh).getD c.toNat false=LW c:=by
 have key:∀n:Fin 256,(Si allowed yh).getD n.val false=LW (UInt8.ofNat n.val):=by decide +kernel
 have:=key ⟨c.toNat,c.toNat_lt⟩;rw[this]
 congr 1
 simp
theorem WA:(Si allowed yh).length=256:=by decide +kernel
theorem JW{t:List Bool}(a:t.length=256)(c:UInt8):cr ((u8 c,()),t,())=some ((t.getD c.toNat false,()),t,()):=by
 unfold cr;dsimp only;rw[NB,ab,aa3 a,aa]
theorem Pr{t:List Bool}(a:t.length=256):∀(s:Tx),fV ((s,()),t,())=some ((s.dropWhile<|λc=>t.getD c.toNat false,()),t,()):=by
 have key:∀s:Tx,Loop dN ((s,()),t,())=some ((s.dropWhile<|λc=>t.getD c.toNat false,()),t,()):=by
  intro s;induction s with
  | nil =>
    rw[aN];unfold dN;dsimp only;rw[DC,show decide (0<([]:Tx).length)=false from rfl,ae];rfl
  | cons c r b =>
    rw[aN];unfold dN;dsimp only;have hi:idx (c::r) (0:Int)=some c:=rfl;rw[DC,show decide (0<(c::r).length)=true from by simp,ab,hi,aa,JW a,aa,Im];dsimp only;cases e:t.getD c.toNat false with
    | false=>rfl
    | true =>
      rw[aA,ae,aR (by decide) (by simp[len];omega) (re _),ab];have d:sub (c::r) (1:Int) (minus (len (c::r)) 1)=r:=by
       have:=mD (c::r) 1 (by simp);simpa using this
      rw[d];show Loop dN ((r,()),t,())=_
      rw[b];rfl
 intro s;unfold fV;dsimp only;rw[key,aa]
theorem aa4{a:Type}{l:List a}(h:l.length<=4294967296):cC .i64 (len l) 1=(l.length:Int)-1:=de (by simp only[len];omega) (by simp only[len];omega)
theorem LY{t:List Bool}(f:t.length=256):∀(n:Nat) (s:Tx),s.length=n->n<=4294967296->dA ((s,()),t,())=some (((s.reverse.dropWhile λc=>t.getD c.toNat false).reverse,()),t,()):=by
 have key:∀(n:Nat) (s:Tx),s.length=n->n<=4294967296->Loop bY ((s,()),t,())=some (((s.reverse.dropWhile λc=>t.getD c.toNat false).reverse,()),t,()):=by
  intro n;induction n with
  | zero =>
    intro s a _;obtain rfl:=wN.1 a;rw[aN];unfold bY;dsimp only;rw[DC,show decide (0<([]:Tx).length)=false from rfl,ae];rfl
  | succ n g =>
    intro s a d;obtain⟨r,c,rfl⟩:∃r c,s=r++[c]:=⟨s.dropLast,s.getLast (by intro e;rw[e] at a;simp at a),(adP _).symm⟩;have h:r.length=n:=by simpa using a
    rw[aN];unfold bY;dsimp only;have hlen:cC .i64 (len<|r++[c]) 1=(r.length:Int):=by rw[aa4<|by omega];simp
    have hi:idx (r++[c]) (r.length:Int)=some c:=by rw[tK];simp
    rw[DC,show decide (0<(r++[c]).length)=true from by simp,ab,hlen,hi,aa,JW f,aa,List.reverse_append,List.reverse_singleton,QD,Im];dsimp only;cases j:t.getD c.toNat false with
    | false=>simp[nt,aj,dh]
    | true =>
      have i:inside 0 (r.length:Int) (len<|r++[c])=true:=aR (by decide) (by omega) (by simp only[len,fQ,Lm];omega);rw[aA,ae,i,ab];have b:sub (r++[c]) (0:Int) (minus (r.length:Int) 0)=r:=by rw[gn];simp
      rw[b];show Loop bY ((r,()),t,())=_
      rw[g r h<|by omega];rfl
 intro n s a d;unfold dA;dsimp only;rw[key n s a d,aa]
theorem dropWhile_nil{b:Type}{p:b->Bool}{l:List b}:l.dropWhile p=[]↔l.all p=true:=by
 induction l with
 | nil=>simp
 | cons a r c =>
   rw[Im,Iz];cases h:p a with
   | true=>simpa using c
   | false=>simp
theorem aa5{p:UInt8->Bool}(s:Tx):((s.reverse.dropWhile p).reverse.dropWhile p=[])↔s.all p=true:=by
 constructor
 .intro h;rw[dropWhile_nil,ZO] at h;have a:s.reverse.all p=true:=by
   have e:s.reverse.takeWhile p++s.reverse.dropWhile p=s.reverse:=Ii;rw[<-e,List.all_append,h];have:(s.reverse.takeWhile p).all p=true:=List.all_takeWhile;simp[this]
  rwa [ZO] at a
 .intro h;have:s.reverse.dropWhile p=[]:=by rw[dropWhile_nil,ZO];exact h
  rw[this];rfl
theorem Ps(s:Tx):oO (s,())=some (jE s,()):=by
 unfold oO jE;dsimp only;have f:cu 1 (len s)=decide (1<=s.length):=by unfold cu len;apply gi.2;omega
 have g:cu (len s) 32=decide (s.length<=32):=by unfold cu len;apply gi.2;omega
 rw[f,g];by_cases b:1<=s.length
 .rw[dI b,ab];by_cases d:s.length<=32
  .rw[dI d,ab,show([97,98,99,100,101,102,103,104,105,106,107,108,109,110,111,112,113,114,115,116,117,118,119,120,121,122,48,49,50,51,52,53,54,55,56,57,46,95,45]:Tx)=allowed from rfl];unfold hM;dsimp only;have h:s≠[]:=by intro e;rw[e] at b;simp at b
   rw[bj h,aw,ab,bj (show allowed≠[] by decide),ae,show aX (len allowed) 1=false from rfl,ae,aa,ae,LX allowed (by decide) (by decide),aa];dsimp only;rw[ab,LY WA s.length s rfl (by omega),aa];dsimp only;rw[Pr WA,aa,aa,aa];have i:(λc:UInt8=>(Si allowed yh).getD c.toNat false)=LW:=funext aeJ;rw[i];show some (bt _ [],())=_
   have:=aa5 (p:=LW) s;by_cases a:s.all LW=true
   .rw[ch<|this.2 a,a];rfl
   .rw[bj λe=>a (this.1 e)];simp at a;simp[a]
  .rw[cJ d,ae,aa];simp
 .rw[cJ b,ae,ae,aa];simp
def Sj(c:UInt8):Bool:=aj (aj (aj (aj (aj (nt<|aY (u8 c) 97) (aY 122<|u8 c) true) (aj (nt<|aY (u8 c) 48) (aY 57<|u8 c) true) false) (nt<|aX (u8 c) 46) false) (nt<|aX (u8 c) 95) false) (nt<|aX (u8 c) 45) false
theorem Sk(c:UInt8):Sj c=!LW c:=by
 have key:∀n:Fin 256,Sj (UInt8.ofNat n.val)=!LW (UInt8.ofNat n.val):=by decide +kernel
 have:=key ⟨c.toNat,c.toNat_lt⟩;simpa using this
theorem yZ(s:Tx)(d:s.length<=4294967296):mL (s,())=some (jE s,()):=by
 unfold mL jE;rcases ko (f:=l8 (s,())) s (λi=>((false,i,()),())) (λ_ x=>Sj x) (λi x=>(1,(false,(i:Int),()),())) (0,(false,len s,()),()) d (λi x a b e=>by
  unfold l8;dsimp only;rw[ak b,ab,ao a,aa,e];show aj (Sj x) _ _=_
  cases Sj x<;>rfl) (by unfold l8;dsimp only;rw[ay,ae];rfl) with ⟨i,x,a,c,l,h⟩|⟨g,h⟩
 .rw[h,aa];have:s.all LW=false:=by
   rw[QJ];refine⟨x,bp.2 ⟨i,a⟩,?_⟩;rw[Sk] at c;simpa using c
  rw[this,V8];rfl
 .rw[h,aa];have:s.all LW=true:=by
   rw[ra];intro x a;obtain⟨i,b⟩:=bp.1 a;have:=g i x b;rw[Sk] at this;simpa using this
  rw[this,ZV];have j:cu 1 (len s)=decide (1<=s.length):=by unfold cu len;apply gi.2;omega
  have k:cu (len s) 32=decide (s.length<=32):=by unfold cu len;apply gi.2;omega
  show some (aj (cu 1<|len s) (cu (len s) 32) false,())=_
  rw[j,k];cases decide (1<=s.length)<;>rfl
end Go.Ge
namespace Go.Ge
variable [Lp]
open Go.Lib
theorem UX(l:List Tx):(mC l).Pairwise (λa b=>a<=b):=by
 have:=List.pairwise_mergeSort (le:=λx y:Tx=>decide (x<=y)) (λa b c h k=>by simp only[kQ] at h k⊢;exact List.le_trans h k) (λa b=>by simp only[wc,kQ];exact List.le_total a b) l;unfold mC;exact this.imp λh=>gM h
theorem Sl(l:List Tx):(mC l).Nodup↔l.Nodup:=(List.mergeSort_perm l _).nodup_iff
theorem Sn{m:List Tx}{j:Nat}(a:j<m.length):keeps m.toArray j=decide (j=0\/m[j]≠m[j-1]'(by omega)):=by
 unfold keeps;have b:m.toArray[j]! = m[j]:=by simp[a]
 have c:m.toArray[j-1]! = m[j-1]'(by omega):=by simp[show j-1<m.length by omega]
 rw[b,c]
theorem Pu(m:List Tx)(r:m.Pairwise λa b=>a<=b):(compact m).length<m.length↔¬m.Nodup:=by
 unfold compact compactUpTo;rw[qI];have hlen:(List.range m.length).length=m.length:=QI;have:((List.range m.length).filter<|keeps m.toArray).length<m.length↔∃x,x∈List.range m.length/\¬keeps m.toArray x=true:=by
  have:=List.length_filter_lt_length_iff_exists (p:=keeps m.toArray) (l:=List.range m.length)
  rwa [hlen] at this
 rw[this];constructor
 .rintro⟨j,c,f⟩ g;have e:=B8.1 c;rw[Sn e] at f;simp only[kQ,F3,V5] at f;have s:=Bb.1 g (j-1) j (by omega) e (by omega);exact s f.2.symm
 .intro g;by_cases h:∃i j,∃(d:i<j) (c:j<m.length),m[i]'(by omega)=m[j]
  .obtain⟨i,j,d,c,k⟩:=h;refine⟨j,B8.2 c,?_⟩;rw[Sn c];simp only[kQ,F3,V5];refine⟨by omega,?_⟩;have le:=λa b (n:a<b) (o:b<m.length)=>Bb.1 r a b (by omega) o n;have n:m[j-1]'(by omega)<=m[j]:=le (j-1) j (by omega) c;have o:m[j]<=m[j-1]'(by omega):=by
    rw[<-k];rcases sY i (j-1) with q|q
    .exact le i (j-1) q (by omega)
    .have:i=j-1:=by omega
     subst this;exact List.le_refl _
   exact(List.le_antisymm n o).symm
  .exfalso;apply g;refine Bb.2 λi j t c d k=>h ⟨i,j,d,c,k⟩
def nx(l:List Tx):Bool:=l.all jE&&decide l.Nodup&&decide (l.length<=4)
def lX(l:List Tx):Int:=if nx l=true then 0 else 1
theorem vG(l:List Tx)(b:l.length<=4294967296):oq (l,())=some (lX l,()):=by
 unfold oq;dsimp only;have d:nt (aY 4<|len l)=decide (l.length<=4):=by
  unfold nt aY len;rw[<-decide_not];apply gi.2;omega
 have e:aY (len<|compact<|mC l) (len l)=!decide l.Nodup:=by
  have h:=Pu (mC l) (UX l);rw[Nx,Sl] at h;unfold aY len;rw[<-decide_not];apply gi.2;rw[<-h];omega
 have g:dH l ()=some (mC l):=by
  unfold dH;rw[ja b];rfl
 rw[ja b,ab,g,aa];unfold dT;rw[aa];rcases ko (f:=nu (l,())) l (λi=>(((0:Int),i,()),())) (λ_ x=>!jE x) (λi x=>(1,((i:Int),(i:Int),()),())) (0,((0:Int),len l,()),()) b (λi x a c j=>by
  unfold nu;dsimp only;rw[ak c,ab,ao a,aa,Ps,aa,Se,hJ,j];by_cases h:jE x=true<;>simp[h]) (by unfold nu;dsimp only;rw[ay,ae];rfl) with ⟨i,x,a,k,o,h⟩|⟨m,h⟩
 .rw[h,aa];have:l.all jE=false:=by
   rw[QJ];exact⟨x,bp.2 ⟨i,a⟩,by simpa using k⟩
  have n:lX l=1:=by unfold lX nx;rw[this];rfl
  rw[n];show aj (aj (nt<|aj (nt<|aY 4<|len l) (aY (len<|compact<|mC l)<|len l) true) (cu 0 (i:Int)) true) _ _=_
  rw[b6<|show(0:Int)<=(i:Int) by omega];cases nt (aj (nt<|aY 4<|len l) (aY (len<|compact<|mC l)<|len l) true)<;>rfl
 .rw[h,aa];have:l.all jE=true:=by
   rw[ra];intro x a;obtain⟨i,c⟩:=bp.1 a;simpa using m i x c
  show aj (aj (nt<|aj (nt<|aY 4<|len l) (aY (len<|compact<|mC l)<|len l) true) (cu 0<|-1) true) _ _=_
  rw[d,e,show cu 0 (-1)=false from rfl];unfold lX nx;rw[this];cases decide l.Nodup<;>cases decide (l.length<=4)<;>rfl
theorem yi(l:List Tx)(F:l.length<=4294967296)(G:∀x∈l,x.length<=4294967296):lG (l,())=some (nx l,()):=by
 unfold lG;have inner:∀(r:Bool) (i:Nat) (x:Tx),l[i]?=some x->(∃j y,j<i/\l[j]?=some y/\y=x/\∃q,Loop (gR (l,()) ((r,(i:Int),()),())) ((r,(0:Int),()),())=some (1,(false,q),()))\/((∀j y,j<i->l[j]?=some y->y≠x)/\∃q,Loop (gR (l,()) ((r,(i:Int),()),())) ((r,(0:Int),()),())=some (0,(r,q),())):=by
  intro r i x a;have hi:=aD a;have s:min i l.length=i:=by omega
  rcases rq (f:=gR (l,()) ((r,(i:Int),()),())) l i (λj=>((r,j,()),())) (λ_ y=>decide (y=x)) (λj y=>(1,(false,(j:Int),()),())) (λn=>(0,(r,(n:Int),()),())) (by omega) (λj y k e b v=>by
   unfold gR;dsimp only;rw[aK<|show(j:Int)<(i:Int) by omega,ab,ao k,aa,ao a,aa,hJ,v];by_cases h:y=x<;>simp[bt,h]) (by
   unfold gR;dsimp only;rw[s,aB (re _),ae]) with ⟨j,y,b,k,g,_,h⟩|⟨p,h⟩
  .exact .inl ⟨j,y,b,k,gM g,_,h⟩
  .exact .inr ⟨λj y b k=>Ln (p j y b k),_,h⟩
 let bad:Nat->Tx->Bool:=λi x=>!jE x||(l.take i).contains x
 have c:∀i x,l[i]?=some x->((l.take i).contains x=true↔∃j y,j<i/\l[j]?=some y/\y=x):=by
  intro i x a;simp only[List.contains_eq_mem,kQ];rw[bp];constructor
  .rintro⟨j,e⟩;rw[fi] at e;split at e
   .exact⟨j,x,by assumption,e,rfl⟩
   .cases e
  .rintro⟨j,y,b,k,rfl⟩;exact⟨j,by rw[fi,aQ b];exact k⟩
 rcases ko (f:=nw (l,())) l (λi=>((false,i,()),())) bad (λi x=>(1,(false,(i:Int),()),())) (0,(false,len l,()),()) F (λi x a hi v=>by
  unfold nw;dsimp only;rw[ak hi,ab,ao a,aa,yZ x (G x<|bp.2 ⟨i,a⟩),aa];dsimp only;cases w:jE x with
  | false=>simp[bad,w,nt,aj]
  | true =>
    rw[aA,ae];rcases inner false i x a with ⟨j,y,m,o,t,q,h⟩|⟨p,q,h⟩
    .have d:=(c i x a).2 ⟨j,y,m,o,t⟩;rw[h,aa];show some _=_
     simp only[bad,w,d];rfl
    .have d:(l.take i).contains x=false:=by
      rw[<-Bool.not_eq_true];intro z;obtain⟨j,y,m,o,t⟩:=(c i x a).1 z;exact p j y m o t
     rw[h,aa,v];simp only[bad,w,d];rfl) (by unfold nw;dsimp only;rw[ay,ae];rfl) with ⟨i,x,a,g,e,h⟩|⟨p,h⟩
 .rw[h,aa];have:nx l=false:=by
   unfold nx;simp only[bad,wc,jL] at g;rcases g with g|g
   .have:l.all jE=false:=by rw[QJ];exact⟨x,bp.2 ⟨i,a⟩,by simpa using g⟩
    rw[this];rfl
   .have:¬l.Nodup:=λA=>by
     obtain⟨j,y,m,o,t⟩:=(c i x a).1 g;obtain⟨B,u⟩:=fq.1 a;obtain⟨C,D⟩:=fq.1 o;exact Bb.1 A j i C B m (by rw[D,u,t])
    rw[cJ this,V8];rfl
  rw[this];rfl
 .rw[h,aa];have m:l.all jE=true:=by
   rw[ra];intro x E;obtain⟨i,hi⟩:=bp.1 E;have:=p i x hi;simp only[bad,vl,FV] at this;exact this.1
  have o:l.Nodup:=by
   refine Bb.2 λj i e hi b H=>?_;have:=p i l[i] (fN hi);simp only[bad,vl] at this;have z:=(c i l[i]<|fN hi).2 ⟨j,l[j],b,fN e,H⟩;rw[z] at this;cases this.2
  show some (cu (len l) 4,())=_
  unfold nx;rw[m,dI o];have:cu (len l) 4=decide (l.length<=4):=by unfold cu len;apply gi.2;omega
  rw[this];rfl
end Go.Ge
namespace Go.Ge
variable [Lp]
def X6(a:List Tx)(b:Int)(i:Nat)(x:Nm):Bool:=decide ((i:Int)≠b)&&x.2.1.any (λs=>decide (s∈a))
def JX(l:List Nm)(a:List Tx)(b:Int):Bool:=l.zipIdx.any λp=>X6 a b p.2 p.1
def qO(l:List Nm)(id:Tx)(a:List Tx):Int:=if lX a≠0 then lX a else if JX l a (DG l id)=true then 8 else 0
theorem E7{l:List Nm}{a:List Tx}{b:Int}:JX l a b=true↔∃i x,l[i]?=some x/\X6 a b i x=true:=by
 unfold JX;rw[FZ];constructor
 .rintro⟨p,c,h⟩;obtain⟨x,i⟩:=p;exact⟨i,x,adN.1 c,h⟩
 .rintro⟨i,x,d,h⟩;exact⟨(x,i),adN.2 d,h⟩
theorem UY{l:List Nm}{a:List Tx}{b:Int}(h:∀i x,l[i]?=some x->X6 a b i x=false):JX l a b=false:=by
 rw[<-Bool.not_eq_true,E7];rintro⟨i,x,c,k⟩;rw[h i x c] at k;cases k
theorem zO(l:List Nm)(id:Tx)(a:List Tx)(j:Small l)(r:a.length<=4294967296):tN (l,id,a,())=some (qO l id a,()):=by
 unfold tN qO;dsimp only;rw[vG a r,aa];dsimp only;by_cases m:lX a=0
 .rw[m,aJ rfl,aA,ae,JV l id j.1,aa,aM (by simp)];generalize DG l id=own;have inner:∀(y:Nm),y.2.1.length<=4294967296->(y.2.1.any (λs=>decide (s∈a))=true/\∃(k:Nat) (q:Int×ai),Loop (iL y) (((0:Int),(0:Int),()),a,())=some (1,((k:Int),q),a,())) \/
    (y.2.1.any (λs=>decide (s∈a))=false/\∃q,Loop (iL y) (((0:Int),(0:Int),()),a,())=some (0,q,a,())):=by
   intro y t;rcases ko (f:=iL y) y.2.1 (λi=>(((0:Int),i,()),a,())) (λ_ s=>decide (s∈a)) (λi s=>(1,((i:Int),(i:Int),()),a,())) (0,((0:Int),len y.2.1,()),a,()) t (λi s b c e=>by
    unfold iL;dsimp only;rw[ak c,ab,ao b,aa,zN a s r,aa,hJ,e];by_cases h:s∈a<;>simp[h]) (by unfold iL;dsimp only;rw[ay,ae];rfl) with ⟨i,s,b,n,u,h⟩|⟨o,h⟩
   .exact .inl ⟨FZ.2 ⟨s,bp.2 ⟨i,b⟩,n⟩,i,_,h⟩
   .refine .inr ⟨?_,_,h⟩;rw[List.any_eq_false];intro s b;obtain⟨i,c⟩:=bp.1 b;rw[o i s c];simp
  rcases ko (f:=oQ (l,id,a,()) (own,())) l (λi=>(((0:Int),i,()),a,())) (X6 a own) (λi x=>(1,((8:Int),(i:Int),()),a,())) (0,((0:Int),len l,()),a,()) j.1 (λi x g c e=>by
   unfold oQ;dsimp only;rw[ak c,ab,ao g,aa];unfold X6;by_cases d:(i:Int)=own
   .rw[aJ d,aA,ae,e];simp[d]
   .rw[aE d,aw,ab];rcases inner x (j.2 x<|bp.2 ⟨i,g⟩) with ⟨p,k,q,h⟩|⟨p,q,h⟩
    .rw[h,aa,p];dsimp only;rw[ed,ae,b6 (by omega),ab];simp[d]
    .rw[h,aa,p];dsimp only;rw[bO,ab,show cu 0 (-1)=false from rfl,ae,e];simp[d]) (by unfold oQ;dsimp only;rw[ay,ae];rfl) with ⟨i,x,g,n,u,h⟩|⟨o,h⟩
  .rw[h,aa,aQ (E7.2 ⟨i,x,g,n⟩)];rfl
  .rw[h,aa,UY o];rfl
 .rw[aE m,aw,ab,aQ m]
theorem uR(l:List Tx)(h:l.length<=4294967296):bA (l,())=some (l,()):=by
 unfold bA;dsimp only;rw[ja h];rfl
theorem Hl(x y:List Tx)(l:x.length<=4294967296):eg (x,y,())=some (decide<|x=y,()):=by
 unfold eg;dsimp only;rw[Sd];by_cases g:x.length=y.length
 .rw[dI g,aA,ae];rcases ko (f:=ji (x,y,())) x (λi=>((false,i,()),())) (λi a=>decide (y[i]?≠some a)) (λi a=>(1,(false,(i:Int),()),())) (0,(false,len x,()),()) l (λi a j m c=>by
   unfold ji;dsimp only;have b:i<y.length:=by omega
   rw[ak m,ab,ak b,ab,ao j,aa,ao (fN b),aa,Se,hJ,c,fN b];by_cases h:a=y[i]
   .simp[bt,h]
   .have n:¬y[i]=a:=λe=>h e.symm;simp[bt,h,n]) (by unfold ji;dsimp only;rw[ay,ae,ae];rfl) with ⟨i,a,j,k,p,h⟩|⟨o,h⟩
  .rw[h,aa];have:x≠y:=λe=>by subst e;rw[j] at k;simp at k
   rw[cJ this];rfl
  .rw[h,aa];have:x=y:=by
    apply Bq;intro i;cases d:x[i]? with
    | none =>
      have:x.length<=i:=adT.1 d;exact(adT.2<|by omega).symm
    | some a =>
      have:=o i a d;simp at this;exact this.symm
   rw[dI this];rfl
 .rw[cJ g,aw,ab];have:x≠y:=λe=>g (by rw[e]);rw[cJ this]
theorem rZ{a:Type}{n:Nat}{l:List a}{c:Int}(b:c=n):aj (aY ((min n l.length:Nat):Int)<|len l) (aY ((min n l.length:Nat):Int) c) false=false:=by
 subst b;by_cases h:l.length<=n
 .rw[ZN h,ay,ae]
 .rw[pb<|by omega,aB (re _)];cases aY (n:Int) (len l)<;>rfl
theorem ks{a:Type}{l:List a}{n:Nat}{c:Int}(b:c=n):cu (len l) c=decide (l.length<=n):=by subst b;exact yd n l
theorem gL{a:Type}{l:List a}{n:Nat}{c:Int}(b:c=n):aY c (len l)=decide (n<l.length):=by subst b;exact DB n l
def pg(l:List Tx):Prop:=l.length<=8/\∀x∈l,x.length<=100
def af7(l:List Nm):Prop:=l.length<=40/\∀x∈l,x.1.length<=100/\pg x.2.1
theorem pg.small{l:List Tx}(h:pg l):l.length<=4294967296:=by have:=h.1;omega
theorem pg.each{l:List Tx}(h:pg l):∀x∈l,x.length<=4294967296:=λx a=>by have:=h.2 x a;omega
theorem af7.small{l:List Nm}(h:af7 l):Small l:=⟨by have:=h.1;omega,λx a=>by have:=(h.2 x a).2.1;omega⟩
def id1:Tx:=[48,48,48,48,48,49]
abbrev Item:=Tx×Tx×Tx×ai
abbrev ax:=Tx×Tx×List Tx×Tx×Int×Int×Bool×ai
abbrev lY:=Tx×List Tx×Tx×Tx×List Item×ai
abbrev yj:=Tx×List Tx×Tx×Tx×Tx×List Item×ai
abbrev vH:=Int×List ax×List lY×List yj×ai
theorem AV(l:List Tx):∃b,kr (l,())=some (b,())/\(b=true->pg l):=by
 unfold kr;rcases rq (f:=qg (l,())) l 8 (λi=>((false,i,()),())) (λ_ x=>decide (100<x.length)) (λi x=>(1,(false,(i:Int),()),())) (λn=>(0,(false,(n:Int),()),())) (by omega) (λi x d a g j=>by
  unfold qg;dsimp only;rw[ak a,ab,aK (show(i:Int)<8 by omega),ab,ao d,aa,gL (n:=100) (c:=100) rfl,hJ,j];by_cases h:100<x.length<;>simp[h]) (by unfold qg;dsimp only;rw[rZ (c:=8) rfl,ae]) with ⟨i,x,a,d,o,_,h⟩|⟨k,h⟩
 .rw[h];exact⟨false,rfl,λh=>by cases h⟩
 .rw[h];refine⟨_,rfl,λe=>?_⟩;dsimp only at e;rw[ks (n:=8) (c:=8) rfl] at e;have m:=gM e;refine⟨m,λx d=>?_⟩;obtain⟨i,a⟩:=bp.1 d;have:=k i x (by have:=aD a;omega) a;simpa using this
theorem NC(l:List Item):∃b,dU (l,())=some (b,()):=by
 unfold dU;rcases rq (f:=ec (l,())) l 8 (λi=>((false,i,()),())) (λ_ x=>decide (100<x.1.length)||decide (200<x.2.2.1.length)) (λi x=>(1,(false,(i:Int),()),())) (λn=>(0,(false,(n:Int),()),())) (by omega) (λi x a d e g=>by
  unfold ec;dsimp only;rw[ak d,ab,aK (show(i:Int)<8 by omega),ab,ao a,aa,gL (n:=100) (c:=100) rfl,aa,gL (n:=200) (c:=200) rfl,g];by_cases h:100<x.1.length
  .simp[h,aj,nt,af]
  .by_cases j:200<x.2.2.1.length<;>simp[h,j,aj,nt,af]) (by unfold ec;dsimp only;rw[rZ (c:=8) rfl,ae]) with ⟨i,x,d,a,k,_,h⟩|⟨m,h⟩
 .rw[h];exact⟨false,rfl⟩
 .rw[h];exact⟨_,rfl⟩
structure FewB (b:vH):Prop where
 ll:b.2.1.length<=40
 ln:∀x∈b.2.1,pg x.2.2.1
 il:b.2.2.1.length<=40
 pW:∀x∈b.2.2.1,pg x.2.1
 bl:b.2.2.2.1.length<=40
 bn:∀x∈b.2.2.2.1,pg x.2.1
theorem aa6(b:vH):∃c,pF (b,())=some (c,())/\(c=true->FewB b):=by
 obtain⟨a,d⟩:∃a:List Tx->Bool,∀l,kr (l,())=some (a l,())/\(a l=true->pg l):=⟨λl=>Classical.choose (AV l),λl=>Ll (AV l)⟩;obtain⟨j,k⟩:∃a:List Item->Bool,∀l,dU (l,())=some (a l,()):=⟨λl=>Classical.choose (NC l),λl=>Ll (NC l)⟩;obtain⟨n,p,r,s,u⟩:=b;unfold pF;rcases rq (f:=hU ((n,p,r,s,u),())) p 40 (λi=>((false,i,()),())) (λ_ x=>!a x.2.2.1) (λi x=>(1,(false,(i:Int),()),())) (λn=>(0,(false,(n:Int),()),())) (by omega) (λi x e g t v=>by
  unfold hU;dsimp only;rw[ak g,ab,aK (show(i:Int)<40 by omega),ab,ao e,aa,(d _).1,aa,Se,v];cases a x.2.2.1<;>rfl) (by unfold hU;dsimp only;rw[rZ (c:=40) rfl,ae]) with ⟨i,x,g,e,B,_,h⟩|⟨w,h⟩
 .rw[h];exact⟨false,rfl,λh=>by cases h⟩
 rw[h,aa];dsimp only;rw[bO,ab];rcases rq (f:=hW ((n,p,r,s,u),())) r 40 (λi=>((false,i,()),())) (λ_ x=>!a x.2.1||decide (200<x.2.2.2.1.length)||!j x.2.2.2.2.1) (λi x=>(1,(false,(i:Int),()),())) (λn=>(0,(false,(n:Int),()),())) (by omega) (λi x e g t v=>by
  unfold hW;dsimp only;rw[ak g,ab,aK (show(i:Int)<40 by omega),ab,ao e,aa,(d _).1,aa,aa,aa,gL (n:=200) (c:=200) rfl,k,aa,v];dsimp only;cases a x.2.1 with
  | false=>rfl
  | true =>
    by_cases m:200<x.2.2.2.1.length
    .simp[m,aj,nt,af]
    .cases C:j x.2.2.2.2.1<;>simp[m,aj,nt,af]) (by unfold hW;dsimp only;rw[rZ (c:=40) rfl,ae]) with ⟨i,x,g,e,B,_,h⟩|⟨y,h⟩
 .rw[h];exact⟨false,rfl,λh=>by cases h⟩
 rw[h,aa];dsimp only;rw[bO,ab];rcases rq (f:=hY ((n,p,r,s,u),())) s 40 (λi=>((false,i,()),())) (λ_ x=>!a x.2.1||decide (200<x.2.2.2.2.1.length)||!j x.2.2.2.2.2.1) (λi x=>(1,(false,(i:Int),()),())) (λn=>(0,(false,(n:Int),()),())) (by omega) (λi x e g t v=>by
  unfold hY;dsimp only;rw[ak g,ab,aK (show(i:Int)<40 by omega),ab,ao e,aa,(d _).1,aa,aa,aa,gL (n:=200) (c:=200) rfl,k,aa,v];dsimp only;cases a x.2.1 with
  | false=>rfl
  | true =>
    by_cases m:200<x.2.2.2.2.1.length
    .simp[m,aj,nt,af]
    .cases C:j x.2.2.2.2.2.1<;>simp[m,aj,nt,af]) (by unfold hY;dsimp only;rw[rZ (c:=40) rfl,ae]) with ⟨i,x,g,e,B,_,h⟩|⟨z,h⟩
 .rw[h];exact⟨false,rfl,λh=>by cases h⟩
 rw[h,aa];refine⟨_,rfl,λo=>?_⟩;rw[ks (n:=40) (c:=40) rfl,ks (n:=40) (c:=40) rfl,ks (n:=40) (c:=40) rfl] at o;have A:p.length<=40:=by
  by_cases q:p.length<=40
  .exact q
  .rw[cJ q] at o;cases o
 have m:r.length<=40:=by
  by_cases q:r.length<=40
  .exact q
  .rw[dI A,cJ q] at o;cases o
 have D:s.length<=40:=by
  by_cases q:s.length<=40
  .exact q
  .rw[dI A,dI m,cJ q] at o;cases o
 refine⟨A,λx e=>?_,m,λx e=>?_,D,λx e=>?_⟩
 .dsimp only at e;obtain⟨i,g⟩:=bp.1 e;have:=w i x (by have:=aD g;omega) g;exact(d _).2 (by simpa using this)
 .dsimp only at e;obtain⟨i,g⟩:=bp.1 e;have:=y i x (by have:=aD g;omega) g;simp only[vl,FV] at this;exact(d _).2 this.1.1
 .dsimp only at e;obtain⟨i,g⟩:=bp.1 e;have:=z i x (by have:=aD g;omega) g;simp only[vl,FV] at this;exact(d _).2 this.1.1
def Zm(x:ax):List Nm:=if x.2.2.2.2.2.2.1=true then [(x.1,x.2.2.1,())] else []
def ofI(x:lY):List Nm:=[(x.1,x.2.1,())]
def ofB(x:yj):List Nm:=[(x.1,x.2.1,())]
def ofV(a:Int)(b:vH):List Nm:=if a=1 then b.2.2.2.1.flatMap ofB else if a=2 then b.2.2.1.flatMap ofI else if a=3 then b.2.1.flatMap Zm else []
theorem sH{b c:Type}{g:b->List c}(d:∀x,(g x).length<=1)(l:List b):(l.flatMap g).length<=l.length:=by
 induction l with
 | nil=>simp
 | cons a r e=>rw[FX,fQ,dd];have:=d a;omega
theorem ny{a b:Type}{g:a->List b}(c:∀x,(g x).length<=1)(l:List a)(i:Nat):((l.take i).flatMap g).length<=l.length:=by
 have:=sH c (l.take i);rw[fB] at this;omega
theorem Pv(x:ax):(Zm x).length<=1:=by unfold Zm;split<;>simp
theorem WB(x:lY):(ofI x).length<=1:=by simp[ofI]
theorem WC(x:yj):(ofB x).length<=1:=by simp[ofB]
theorem E8{a:Type}{s:List a}{x:a}(h:s.length<=1000):fits (plus (len s)<|len [x])=true:=bD (by simp;omega)
theorem Pw(a:Int)(b:vH)(c:FewB b):yg (a,b,())=some (ofV a b,()):=by
 unfold yg ofV;dsimp only;by_cases h:a=1
 .rw[aQ h,aJ h,ab];have:=xq (f:=rW (a,b,())) b.2.2.2.1 (λs i=>((i,()),(),s,())) ofB ((len b.2.2.2.1,()),(),b.2.2.2.1.flatMap ofB,()) (by have:=c.bl;omega) (λi x d e g=>by
   unfold rW;dsimp only;have l:=ny WC b.2.2.2.1 i;rw[ak e,ab,ao d,aa,uR _ (c.bn x<|bp.2 ⟨i,d⟩).small,aa,E8 (by have:=c.bl;omega),ab,g];rfl) (by unfold rW;dsimp only;rw[ay,ae];rfl)
  rw[this,aa,aa]
 .rw[aM h,aE h,ae];by_cases j:a=2
  .rw[aQ j,aJ j,ab];have:=xq (f:=rX (a,b,())) b.2.2.1 (λs i=>((i,()),(),s,())) ofI ((len b.2.2.1,()),(),b.2.2.1.flatMap ofI,()) (by have:=c.il;omega) (λi x d e g=>by
    unfold rX;dsimp only;have l:=ny WB b.2.2.1 i;rw[ak e,ab,ao d,aa,uR _ (c.pW x<|bp.2 ⟨i,d⟩).small,aa,E8 (by have:=c.il;omega),ab,g];rfl) (by unfold rX;dsimp only;rw[ay,ae];rfl)
   rw[this,aa,aa,aa]
  .rw[aM j,aE j,ae];by_cases k:a=3
   .rw[aQ k,aJ k,ab];have:=xq (f:=rY (a,b,())) b.2.1 (λs i=>((i,()),(),s,())) Zm ((len b.2.1,()),(),b.2.1.flatMap Zm,()) (by have:=c.ll;omega) (λi x d e g=>by
     unfold rY;dsimp only;have l:=ny Pv b.2.1 i;rw[ak e,ab,ao d,aa,uR _ (c.ln x<|bp.2 ⟨i,d⟩).small,aa,E8 (by have:=c.ll;omega),ab,g];unfold Zm;cases x.2.2.2.2.2.2.1 with
     | false=>simp[aj,af,dh]
     | true=>rfl) (by unfold rY;dsimp only;rw[ay,ae];rfl)
    rw[this,aa,aa,aa,aa]
   .rw[aM k,aE k,ae];rfl
theorem X7(d:Int)(b:vH)(c:FewB b):Small (ofV d b):=by
 unfold ofV;split
 .refine⟨by have:=sH WC b.2.2.2.1;have:=c.bl;omega,λx a=>?_⟩;rw[Iw] at a;obtain⟨y,e,a⟩:=a;simp only[ofB,wO] at a;subst a;exact(c.bn y e).small
 .split
  .refine⟨by have:=sH WB b.2.2.1;have:=c.il;omega,λx a=>?_⟩;rw[Iw] at a;obtain⟨y,e,a⟩:=a;simp only[ofI,wO] at a;subst a;exact(c.pW y e).small
  .split
   .refine⟨by have:=sH Pv b.2.1;have:=c.ll;omega,λx a=>?_⟩;rw[Iw] at a;obtain⟨y,e,a⟩:=a;unfold Zm at a;split at a
    .simp only[wO] at a;subst a;exact(c.ln y e).small
    .cases a
   .exact⟨by simp,λx a=>by cases a⟩
def AW(n x:Int):Int:=wV .u32 (mu .u32 x n) (lQ .u32 x<|32-n)
theorem ou{n m:Int}(h:lP .u64 (jC .u64<|cC .i64 0 n) 31=m)(a:aY m 0=false)(b:cC .u64 32 m=n)(c:aY n 0=false)(d:32-n=m)(x:Int):b7 (x,n,())=some (AW n x,()):=by
 unfold b7 jw AW;dsimp only;rw[h,a,ae,b,c,ae,aa,d,UT]
theorem r0{n:Int}(a:aY n 0=false)(b:cC .i64 32 n=32-n)(c:aY (32-n) 0=false)(x:Int):bV (x,n,())=some (AW n x,()):=by
 unfold bV AW;dsimp only;rw[a,ae,b,c,ae]
theorem r7(x:Int):b7 (x,7,())=some (AW 7 x,()):=ou (m:=25) (by decide) (by decide) (by decide) (by decide) (by decide) x
theorem r18(x:Int):b7 (x,18,())=some (AW 18 x,()):=ou (m:=14) (by decide) (by decide) (by decide) (by decide) (by decide) x
theorem r17(x:Int):b7 (x,17,())=some (AW 17 x,()):=ou (m:=15) (by decide) (by decide) (by decide) (by decide) (by decide) x
theorem r19(x:Int):b7 (x,19,())=some (AW 19 x,()):=ou (m:=13) (by decide) (by decide) (by decide) (by decide) (by decide) x
theorem r6(x:Int):b7 (x,6,())=some (AW 6 x,()):=ou (m:=26) (by decide) (by decide) (by decide) (by decide) (by decide) x
theorem r11(x:Int):b7 (x,11,())=some (AW 11 x,()):=ou (m:=21) (by decide) (by decide) (by decide) (by decide) (by decide) x
theorem r25(x:Int):b7 (x,25,())=some (AW 25 x,()):=ou (m:=7) (by decide) (by decide) (by decide) (by decide) (by decide) x
theorem r2(x:Int):b7 (x,2,())=some (AW 2 x,()):=ou (m:=30) (by decide) (by decide) (by decide) (by decide) (by decide) x
theorem r13(x:Int):b7 (x,13,())=some (AW 13 x,()):=ou (m:=19) (by decide) (by decide) (by decide) (by decide) (by decide) x
theorem r22(x:Int):b7 (x,22,())=some (AW 22 x,()):=ou (m:=10) (by decide) (by decide) (by decide) (by decide) (by decide) x
theorem t7(x:Int):bV (x,7,())=some (AW 7 x,()):=r0 (by decide) (by decide) (by decide) x
theorem t18(x:Int):bV (x,18,())=some (AW 18 x,()):=r0 (by decide) (by decide) (by decide) x
theorem t17(x:Int):bV (x,17,())=some (AW 17 x,()):=r0 (by decide) (by decide) (by decide) x
theorem t19(x:Int):bV (x,19,())=some (AW 19 x,()):=r0 (by decide) (by decide) (by decide) x
theorem t6(x:Int):bV (x,6,())=some (AW 6 x,()):=r0 (by decide) (by decide) (by decide) x
theorem t11(x:Int):bV (x,11,())=some (AW 11 x,()):=r0 (by decide) (by decide) (by decide) x
theorem t25(x:Int):bV (x,25,())=some (AW 25 x,()):=r0 (by decide) (by decide) (by decide) x
theorem t2(x:Int):bV (x,2,())=some (AW 2 x,()):=r0 (by decide) (by decide) (by decide) x
theorem t13(x:Int):bV (x,13,())=some (AW 13 x,()):=r0 (by decide) (by decide) (by decide) x
theorem t22(x:Int):bV (x,22,())=some (AW 22 x,()):=r0 (by decide) (by decide) (by decide) x
def word(b:List Int)(t:Nat):Int :=
 wV .u32 (wV .u32 (wV .u32 (lQ .u32 (jC .u32<|b.getD (4*t) 0) 24)<|lQ .u32 (jC .u32<|b.getD (4*t+1) 0) 16)<|lQ .u32 (jC .u32<|b.getD (4*t+2) 0) 8) (jC .u32<|b.getD (4*t+3) 0)
def fy(n:Nat):List Int:=List.replicate n 0
def xr(b:List Int):Nat->List Int
 | 0=>fy 64
 | t+1=>(xr b t).set t (word b t)
theorem sI(b:List Int)(t:Nat):(xr b t).length=64:=by
 induction t with
 | zero=>rfl
 | succ t a=>simp[xr,a]
theorem X8(b:List Int):∀(t j:Nat),t<=j->j<64->(xr b t).getD j 0=0:=by
 intro t;induction t with
 | zero =>
   intro j _ a;show(List.replicate 64 (0:Int)).getD j 0=0
   rw[Oj,VZ,aQ a];rfl
 | succ t c =>
   intro j e d;have:=c j (by omega) d;simp only[xr,Oj,V4] at this⊢;rw[aM<|by omega];exact this
def af8(p:List Int)(t:Nat):Int :=
 aF .u32 (aF .u32 (aF .u32 (fI .u32 (fI .u32 (AW 17<|p.getD (t-2) 0)<|AW 19<|p.getD (t-2) 0)<|mu .u32 (p.getD (t-2) 0) 10)<|p.getD (t-7) 0)
  (fI .u32 (fI .u32 (AW 7<|p.getD (t-15) 0)<|AW 18<|p.getD (t-15) 0)<|mu .u32 (p.getD (t-15) 0) 3)) (p.getD (t-16) 0)
def Hm(l:List Int):Nat->List Int
 | 0=>l
 | k+1=>(Hm l k).set (16+k) (af8 (Hm l k)<|16+k)
theorem Cv(l:List Int)(k:Nat):(Hm l k).length=l.length:=by
 induction k with
 | zero=>rfl
 | succ k a=>simp[Hm,a]
def uS(b:List Int):List Int:=Hm (xr b 16) 48
theorem DH(b:List Int):(uS b).length=64:=by unfold uS;rw[Cv,sI]
theorem four{t:Nat}(a:t<64):gX .i64 4 (t:Int)=((4*t:Nat):Int):=by rw[zK (by omega)<|by omega];omega
theorem Sp(b:List Int)(s:b.length=64)(t:Nat)(o:t<16)(w:List Int)(l:w.length=64)(m:w.getD t 0=0)(u v:ai)(y:List Int×ai) :
  Loop (jb (b,u) (((t:Int),v),y)) ((0,()),w,())=some (((4:Int),()),w.set t<|word b t,()):=by
 let a:Nat->Int:=λj=>match j with
  | 0=>0
  | 1=>wV .u32 (lQ .u32 0 8) (jC .u32<|b.getD (4*t) 0)
  | 2=>wV .u32 (lQ .u32 (wV .u32 (lQ .u32 0 8)<|jC .u32<|b.getD (4*t) 0) 8) (jC .u32<|b.getD (4*t+1) 0)
  | 3=>wV .u32 (lQ .u32 (wV .u32 (lQ .u32 (wV .u32 (lQ .u32 0 8)<|jC .u32<|b.getD (4*t) 0) 8)<|jC .u32<|b.getD (4*t+1) 0) 8) (jC .u32<|b.getD (4*t+2) 0)
  | _=>word b t
 have c:∀j,j<4->a (j+1)=wV .u32 (lQ .u32 (a j) 8) (jC .u32<|b.getD (4*t+j) 0):=by
  intro j n;rcases(by omega:j=0\/j=1\/j=2\/j=3) with rfl|rfl|rfl|rfl
  .rfl
  .rfl
  .rfl
  .exact(acY _ _ _ _).symm
 have d:w=w.set t 0:=by
  apply Bq;intro j;rw[V4];split
  .rename_i e;subst e;rw[aQ<|by omega];rw[Oj,fN (by omega)] at m;rw[fN<|by omega];simpa using m
  .rfl
 have:=cR (f:=jb (b,u) (((t:Int),v),y)) (r:=(((4:Int),()),w.set t<|word b t,())) 4 (λj=>(((j:Int),()),w.set t<|a j,())) (λj n=>by
  unfold jb;dsimp only;rw[four<|by omega,en (by omega) (by omega)];have g:minus (((4*t:Nat):Int)+4) ((4*t:Nat):Int)=4:=by unfold minus;omega
  rw[g,aK (by omega),ab,aW (by omega) (by omega),ab,aW (by omega) (by omega)];have p:(w.set t<|a j).length=64:=by simp[l]
  have q:(w.set t<|a j).getD t 0=a j:=by simp[Oj,l,o,(by omega:t<64)]
  rw[lW b 0 (i:=plus ((4*t:Nat):Int) j) (k:=4*t+j) (by unfold plus;omega)<|by omega,aa,ab,eW _ 0 (by rw[p];omega),q,aa,aB (by decide),ae,ab,aa,aa,aa,cS,aL (by omega),gm,List.set_set,c j n])
  (by
   unfold jb;dsimp only;rw[four<|by omega,en (by omega) (by omega)];have g:minus (((4*t:Nat):Int)+4) ((4*t:Nat):Int)=4:=by unfold minus;omega
   rw[g,aB (by omega),ae,dG];rfl)
 have h:w.set t (a 0)=w:=d.symm;rw[h] at this;exact this
theorem WD:([0,0,0,0,0,0,0,0,0,0,0,0,0,0,0,0,0,0,0,0,0,0,0,0,0,0,0,0,0,0,0,0,0,0,0,0,0,0,0,0,0,0,0,0,0,0,0,0,0,0,0,0,0,0,0,0,0,0,0,0,0,0,0,0]:List Int)=fy 64:=rfl
theorem Sq(b:List Int)(a:b.length=64)(u:ai):Loop (jc (b,u)) ((0,()),fy 64,())=some (((16:Int),()),xr b 16,()):=by
 refine cR (f:=jc (b,u)) 16 (λt=>(((t:Int),()),xr b t,())) (λt c=>?_) ?_
 .unfold jc;dsimp only;rw[aK<|by omega,ab,four (by omega),en (by omega) (by omega),aR (by omega) (by omega) (by omega),ab,Sp b a t c _ (sI b t) (X8 b t t (cg _)<|by omega),aa,cS,aL (by omega)];rfl
 .unfold jc;dsimp only;rw[aB<|by omega,ae,dG];rfl
theorem X9(l:List Int)(a:l.length=64):Loop jd ((16,()),l,())=some (((64:Int),()),Hm l 48,()):=by
 refine cR (f:=jd) 48 (λk=>((((16+k:Nat):Int),()),Hm l k,())) (λk b=>?_) ?_
 .have hlen:(Hm l k).length=64:=by rw[Cv,a]
  unfold jd;dsimp only;rw[aK<|by omega,ab,de (by omega) (by omega),de (by omega) (by omega),de (by omega) (by omega),de (by omega) (by omega),
   aW (by omega) (by omega),ab,lW _ 0 (k:=16+k-2) (by omega) (by omega),aa,aW (by omega) (by omega),ab,lW _ 0 (k:=16+k-15) (by omega) (by omega),aa,
   r7,aa,r18,aa,aB (by decide),ae,r17,aa,r19,aa,aB (by decide),ae,aW (by omega) (by omega),ab,lW _ 0 (k:=16+k-7) (by omega) (by omega),aa,
   aW (by omega) (by omega),ab,lW _ 0 (k:=16+k-16) (by omega) (by omega),aa,aW (by omega) (by omega),ab,eW _ 0 (by omega),aa,aa,aa,cS,aL (by omega),gm]
  rfl
 .unfold jd;dsimp only;rw[aB<|by omega,ae,dG];rfl
theorem Px(b:List Int)(a:b.length=64)(u:ai):p9 (b,u)=some (uS b,()):=by
 unfold p9;rw[WD,Sq b a,aa];dsimp only;rw[X9 _<|sI b 16,aa];dsimp only[uS]
theorem aa7(s:aq){i:Nat}(h:i<s.length)(x:UInt8)(a:s[i]?=some x):u8 x=(av s).getD i 0:=by
 simp[av,Oj,a,u8]
theorem Ya(h:List Int)(s:aq)(p:s.length=64)(u:ai):Loop (gN (h,s,u)) ((0,()),fy 64,())=some (((16:Int),()),xr (av s) 16,()):=by
 have key:∀b:List Int,b=av s->Loop (gN (h,s,u)) ((0,()),fy 64,())=some (((16:Int),()),xr b 16,()):=by
  intro b a;refine cR (f:=gN (h,s,u)) 16 (λt=>(((t:Int),()),xr b t,())) (λt q=>?_) ?_
  .have at_:∀(i:Int) (j:Nat),i=j->j<64->∃x,idx s i=some x/\u8 x=b.getD j 0:=by
    intro i j e r;subst e;refine⟨s[j],?_,by rw[a];exact aa7 s (by omega) _ (fN<|by omega)⟩;rw[tK,fN]
   unfold gN;dsimp only;rw[aK<|by omega,ab,four (by omega),en (by omega) (by omega),en (by omega) (by omega),en (by omega) (by omega)];obtain⟨v,c,d⟩:=at_ ((4*t:Nat):Int) (4*t) rfl (by omega);obtain⟨w,g,k⟩:=at_ (((4*t:Nat):Int)+1) (4*t+1) (by omega) (by omega);obtain⟨y,l,m⟩:=at_ (((4*t:Nat):Int)+2) (4*t+2) (by omega) (by omega);obtain⟨z,n,o⟩:=at_ (((4*t:Nat):Int)+3) (4*t+3) (by omega) (by omega);rw[c,aa,aB (by decide),ae,g,aa,aB (by decide),ae,l,aa,aB (by decide),ae,n,aa,aW (by omega) (by omega),ab,
    eW _ 0 (by rw[sI];omega),aa,aa,aa,cS,aL (by omega),gm,d,k,m,o]
   rfl
  .unfold gN;dsimp only;rw[aB<|by omega,ae,dG];rfl
 exact key _ rfl
theorem ac2(l:List Int)(a:l.length=64):Loop jS ((16,()),l,())=some (((64:Int),()),Hm l 48,()):=by
 refine cR (f:=jS) 48 (λk=>((((16+k:Nat):Int),()),Hm l k,())) (λk b=>?_) ?_
 .have hlen:(Hm l k).length=64:=by rw[Cv,a]
  unfold jS;dsimp only;rw[aK<|by omega,ab,de (by omega) (by omega),de (by omega) (by omega),de (by omega) (by omega),de (by omega) (by omega),
   aW (by omega) (by omega),ab,lW _ 0 (k:=16+k-2) (by omega) (by omega),aa,aW (by omega) (by omega),ab,lW _ 0 (k:=16+k-15) (by omega) (by omega),aa,
   t17,aa,t19,aa,aB (by decide),ae,aW (by omega) (by omega),ab,lW _ 0 (k:=16+k-7) (by omega) (by omega),aa,t7,aa,t18,aa,aB (by decide),ae,
   aW (by omega) (by omega),ab,lW _ 0 (k:=16+k-16) (by omega) (by omega),aa,aW (by omega) (by omega),ab,eW _ 0 (by omega),aa,aa,aa,cS,aL (by omega),gm]
  rfl
 .unfold jS;dsimp only;rw[aB<|by omega,ae,dG];rfl
abbrev W8:=Int×Int×Int×Int×Int×Int×Int×Int
def rnd(k w:Int):W8->W8
 | (a,b,c,d,e,f,g,h) =>
   let one:=aF .u32 (aF .u32 (aF .u32 (aF .u32 h<|fI .u32 (fI .u32 (AW 6 e)<|AW 11 e)<|AW 25 e)<|fI .u32 g<|lP .u32 e<|fI .u32 f g) k) w
   let two:=aF .u32 (fI .u32 (fI .u32 (AW 2 a)<|AW 13 a)<|AW 22 a) (wV .u32 (lP .u32 a b)<|lP .u32 c<|wV .u32 a b)
   (aF .u32 one two,a,b,c,aF .u32 d one,e,f,g)
def DI(K w:List Int)(s:W8):Nat->W8
 | 0=>s
 | t+1=>rnd (K.getD t 0) (w.getD t 0) (DI K w s t)
def sJ:List Int:=[1116352408,1899447441,3049323471,3921009573,961987163,1508970993,2453635748,2870763221,3624381080,310598401,607225278,1426881987,1925078388,2162078206,2614888103,3248222580,3835390401,4022224774,264347078,604807628,770255983,1249150122,1555081692,1996064986,2554220882,2821834349,2952996808,3210313671,3336571891,3584528711,113926993,338241895,666307205,773529912,1294757372,1396182291,1695183700,1986661051,2177026350,2456956037,2730485921,2820302411,3259730800,3345764771,3516065817,3600352804,4094571909,275423344,430227734,506948616,659060556,883997877,958139571,1322822218,1537002063,1747873779,1955562222,2024104815,2227730452,2361852424,2428436474,2756734187,3204031479,3329325298]
theorem Yb:zM ()=some (sJ,()):=rfl
theorem UZ:uN ()=some (sJ,()):=rfl
def qP(s:W8)(t:Int):Int×Int×Int×Int×Int×Int×Int×Int×Int×ai:=(s.1,s.2.1,s.2.2.1,s.2.2.2.1,s.2.2.2.2.1,s.2.2.2.2.2.1,s.2.2.2.2.2.2.1,s.2.2.2.2.2.2.2,t,())
def jB(s:W8):List Int:=[s.1,s.2.1,s.2.2.1,s.2.2.2.1,s.2.2.2.2.1,s.2.2.2.2.2.1,s.2.2.2.2.2.2.1,s.2.2.2.2.2.2.2]
theorem U0(w:List Int)(i:w.length=64)(s:W8)(u v:ai):Loop (fa (sJ,u) (w,v)) (qP s 0,())=some (qP (DI sJ w s 64) 64,()):=by
 refine cR (f:=fa (sJ,u) (w,v)) 64 (λt=>(qP (DI sJ w s t) t,())) (λt j=>?_) ?_
 .show fa (sJ,u) (w,v) (qP (DI sJ w s t) t,())=some (.inl (qP (rnd (sJ.getD t 0) (w.getD t 0)<|DI sJ w s t) ((t+1:Nat):Int),()))
  generalize DI sJ w s t=q;obtain⟨a,b,c,d,e,f,g,h⟩:=q;unfold fa qP;dsimp only;rw[aK<|by omega,ab,r6,aa,r11,aa,r25,aa,aW (by omega) (by omega),ab,eW sJ 0 (by show t<64;omega),aa,ab,eW w 0 (by omega),aa,
   r2,aa,r13,aa,r22,aa,cS,aL (by omega)]
  rfl
 .unfold fa qP;dsimp only;rw[aB<|by omega,ae,dG];rfl
theorem U1(w:List Int)(C:w.length=64)(s:W8)(q:Int×ai)(u v:ai):Loop (gO (q,w,u) (sJ,v)) ((0,()),jB s,())=some (((64:Int),()),jB<|DI sJ w s 64,()):=by
 refine cR (f:=gO (q,w,u) (sJ,v)) 64 (λt=>(((t:Int),()),jB<|DI sJ w s t,())) (λt i=>?_) ?_
 .show gO (q,w,u) (sJ,v) (((t:Int),()),jB<|DI sJ w s t,())=some (.inl ((((t+1:Nat):Int),()),jB<|rnd (sJ.getD t 0) (w.getD t 0)<|DI sJ w s t,()))
  generalize DI sJ w s t=q;obtain⟨a,b,c,d,e,f,g,h⟩:=q;have j:idx (jB (a,b,c,d,e,f,g,h)) 0=some a:=rfl;have k:idx (jB (a,b,c,d,e,f,g,h)) 1=some b:=rfl;have l:idx (jB (a,b,c,d,e,f,g,h)) 2=some c:=rfl;have m:idx (jB (a,b,c,d,e,f,g,h)) 3=some d:=rfl;have n:idx (jB (a,b,c,d,e,f,g,h)) 4=some e:=rfl;have o:idx (jB (a,b,c,d,e,f,g,h)) 5=some f:=rfl;have p:idx (jB (a,b,c,d,e,f,g,h)) 6=some g:=rfl;have r:idx (jB (a,b,c,d,e,f,g,h)) 7=some h:=rfl;have w0:within 0 8=true:=by decide
  have w1:within 1 8=true:=by decide
  have w2:within 2 8=true:=by decide
  have x:within 3 8=true:=by decide
  have y:within 4 8=true:=by decide
  have z:within 5 8=true:=by decide
  have A:within 6 8=true:=by decide
  have B:within 7 8=true:=by decide
  have wt:within (t:Int) 64=true:=aW (by omega) (by omega);unfold gO;dsimp only;simp only[aK<|show(t:Int)<64 by omega,ab,w0,w1,w2,x,y,z,A,B,wt,j,k,l,m,n,o,p,r,aa,t6,t11,t25,t2,t13,t22,eW sJ 0 (show t<sJ.length from i),eW w 0 (show t<w.length by omega),cS,aL (show t<4611686018427387904 by omega),
   <-af4,<-aeG]
  rfl
 .unfold gO;dsimp only;rw[aB<|by omega,ae,dG];rfl
def of8(l:List Int):W8:=(l.getD 0 0,l.getD 1 0,l.getD 2 0,l.getD 3 0,l.getD 4 0,l.getD 5 0,l.getD 6 0,l.getD 7 0)
theorem Yc(l:List Int)(i:l.length=8):jB (of8 l)=l:=by
 match l,i with
 | [a,b,c,d,e,f,g,h],_=>rfl
def xv(l m:List Int):Nat->List Int
 | 0=>l
 | i+1=>(xv l m i).set i (aF .u32 (l.getD i 0)<|m.getD i 0)
theorem zP(l m:List Int)(i:Nat):(xv l m i).length=l.length:=by
 induction i with
 | zero=>rfl
 | succ i a=>simp[xv,a]
theorem WE(l m:List Int):∀(i j:Nat),i<=j->(xv l m i).getD j 0=l.getD j 0:=by
 intro i;induction i with
 | zero=>intro j _;rfl
 | succ i a =>
   intro j h;have:=a j (by omega);simp only[xv,Oj,V4] at this⊢;rw[aM<|by omega];exact this
def comp(h b:List Int):List Int:=xv h (jB<|DI sJ (uS b) (of8 h) 64) 8
theorem Sr(h b:List Int):(comp h b).length=h.length:=zP _ _ _
theorem Yd(l m:List Int)(i:l.length=8)(j:m.length=8):xv l m 8=xv m l 8:=by
 match l,i,m,j with
 | [a,b,c,d,e,f,g,h],_,[k,n,o,p,q,r,s,t],_ =>
   simp only[xv,List.set,List.getD_cons_zero,List.getD_cons_succ];simp only[Sc]
theorem Ye(h:List Int)(c:h.length=8)(s:aq)(g:s.length=64)(u:ai):rR (h,s,u)=some (comp h<|av s,()):=by
 have j:(xr (av s) 16).length=64:=sI _ _;unfold rR;rw[WD,Ya h s g,aa];dsimp only;rw[ac2 _ j,aa,UZ,aa];have k:h=jB (of8 h):=(Yc h c).symm;have b:(uS<|av s).length=64:=DH _;have d:=U1 (uS<|av s) b (of8 h) ((64:Int),()) () ();rw[<-k] at d;rw[show Hm (xr (av s) 16) 48=uS (av s) from rfl,d,aa];dsimp only;generalize e:jB (DI sJ (uS<|av s) (of8 h) 64)=m;have a:m.length=8:=by rw[<-e];rfl
 have:Loop (jT (h,s,u)) ((0,()),m,())=some (((8:Int),()),xv m h 8,()):=by
  refine cR (f:=jT (h,s,u)) 8 (λi=>(((i:Int),()),xv m h i,())) (λi l=>?_) ?_
  .have n:(xv m h i).length=8:=by rw[zP,a]
   unfold jT;dsimp only;simp only[aK<|show(i:Int)<8 by omega,ab,aW (show(0:Int)<=i by omega) (show(i:Int)<8 by omega),eW (xv m h i) 0 (show i<(xv m h i).length by omega),eW h 0 (show i<h.length by omega),aa,cS,aL (show i<4611686018427387904 by omega),gm];rw[WE m h i i<|cg _];rfl
  .unfold jT;dsimp only;rw[aB<|by omega,ae,dG];rfl
 rw[this,aa];dsimp only;rw[Yd m h a c];unfold comp;rw[e]
def H0:List Int:=[1779033703,3144134277,1013904242,2773480762,1359893119,2600822924,528734635,1541459225]
theorem Yf:sE ()=some (H0,()):=rfl
theorem LZ:wv ()=some (H0,()):=rfl
def xM(a:aq):Nat->List Int
 | 0=>H0
 | k+1=>comp (xM a k) (av<|(a.drop<|64*k).take 64)
theorem yk(a:aq)(k:Nat):(xM a k).length=8:=by
 induction k with
 | zero=>rfl
 | succ k b=>simp only[xM];rw[Sr,b]
theorem WG(a b:aq):∀k,64*k<=a.length->xM (a++b) k=xM a k:=by
 intro k;induction k with
 | zero=>intro _;rfl
 | succ k c =>
   intro h;simp only[xM];rw[c<|by omega,MQ (by omega),TN (by rw[kx];omega)]
abbrev Cw:=(Bool×List Int×ai)×List Int×Int×ai
def Inv(c:Cw)(a:aq):Prop :=
 ∃b,c=((decide<|64<=a.length,(if 64<=a.length then xM a (a.length / 64) else fy 8),()),b,(a.length:Int),())/\b.length=64/\b.take (a.length % 64)=av (a.drop<|64*(a.length / 64))
def aa8:Cw:=((false,fy 8,()),fy 64,0,())
theorem ain:Inv aa8 []:=⟨fy 64,rfl,rfl,rfl⟩
theorem r4(a b:aq):av (a++b)=av a++av b:=by simp[av]
theorem zQ(a:aq)(n:Nat):(av a).take n=av (a.take n):=by simp[av,ZT]
theorem fE(a:aq):(av a).length=a.length:=by simp[av]
theorem uT(a b:Nat):iE (a:Int) (b:Int)=((a % b:Nat):Int):=by
 unfold iE;rw[Int.tmod_eq_emod_of_nonneg<|by omega];exact(Int.natCast_emod a b).symm
theorem aa9(q:W8)(a:Cw)(b:a.1.2.1.length=8):Loop (gp (qP q 64,())) ((0,()),a,())=some (((8:Int),()),((a.1.1,xv a.1.2.1 (jB q) 8,a.1.2.2),a.2),()):=by
 obtain⟨⟨c,h,u⟩,d⟩:=a;dsimp only at b⊢;refine cR (f:=gp (qP q 64,())) 8 (λi=>(((i:Int),()),((c,xv h (jB q) i,u),d),())) (λi j=>?_) ?_
 .have k:(xv h (jB q) i).length=8:=by rw[zP,b]
  have e:([(qP q 64).1,(qP q 64).2.1,(qP q 64).2.2.1,(qP q 64).2.2.2.1,(qP q 64).2.2.2.2.1,(qP q 64).2.2.2.2.2.1,(qP q 64).2.2.2.2.2.2.1,(qP q 64).2.2.2.2.2.2.2.1]:List Int)=jB q:=rfl;unfold gp;dsimp only;rw[e];have g:(jB q).length=8:=rfl;simp only[aK<|show(i:Int)<8 by omega,ab,aW (show(0:Int)<=i by omega) (show(i:Int)<8 by omega),eW (xv h (jB q) i) 0 (show i<(xv h (jB q) i).length by omega),eW (jB q) 0 (show i<(jB q).length by omega),aa,cS,aL (show i<4611686018427387904 by omega),gm];rw[WE h (jB q) i i<|cg _];rfl
 .unfold gp;dsimp only;rw[aB<|by omega,ae,dG];rfl
theorem aba(a b:aq)(O:Cw)(P:a≠[])(Q:Inv O b)(hb:b.length+a.length<1152921504606846976) :
  ∃s,fb ((a,()),O,())=some (.inl ((a.drop<|64-b.length % 64,()),s,()))/\Inv s (b++a.take (64-b.length % 64)):=by
 obtain⟨e,rfl,hw,R⟩:=Q;generalize S:b.length=N at *;have T:N % 64<64:=wT _ (by decide);have D:iE (N:Int) 64=((N % 64:Nat):Int):=uT N 64;have em:iU (av a) (minus (64:Int) ((N % 64:Nat):Int))=av (a.take<|64-N % 64):=by
  unfold iU minus;rw[show((64:Int)-((N % 64:Nat):Int)).toNat=64-N % 64 by omega,zQ]
 generalize l:(a.take<|64-N % 64).length=k;have U:k=min (64-N % 64) a.length:=by rw[<-l,fB]
 have V:0<k:=by
  have:0<a.length:=by cases a with|nil=>exact absurd rfl P|cons=>simp
  omega
 have t:len (av<|a.take<|64-N % 64)=(k:Int):=by unfold len;rw[fE,l]
 have u:aF .i64 ((N % 64:Nat):Int) (k:Int)=((N % 64+k:Nat):Int):=by rw[en (by omega)<|by omega];omega
 have m:aF .i64 (N:Int) (k:Int)=((N+k:Nat):Int):=by rw[en (by omega)<|by omega];omega
 have v:inside ((N % 64:Nat):Int) 64 64=true:=aR (by omega) (by omega) (by omega);have w:inside (k:Int) (len a) (len a)=true:=aR (by omega) (by unfold len;omega) (by omega);have z:sub a (k:Int) (minus (len a) (k:Int))=a.drop k:=by
  unfold sub minus len;rw[qZ,Bd (by rw[kx];omega)]
 have A:a.drop k=a.drop (64-N % 64):=by
  rcases Nat.le_total (64-N % 64) a.length with h|h
  .rw[show k=64-N % 64 by omega]
  .rw[GU<|by omega,GU h]
 have n:over e ((N % 64:Nat):Int) (av<|a.take<|64-N % 64)=av (b.drop (64*(N / 64))++a.take (64-N % 64))++e.drop (N % 64+k):=by
  unfold over;rw[qZ,R,fE,l,r4]
 have E:nt (bt a [])=true:=by
  unfold bt nt;cases a with
  | nil=>exact absurd rfl P
  | cons x r=>rfl
 have f:(b++a.take (64-N % 64)).length=N+k:=by rw[fQ,S,l]
 have W:64*(N / 64)+N % 64=N:=QP N 64;have c:(b.drop<|64*(N / 64)).length=N % 64:=by rw[kx];omega
 have j:(av (b.drop (64*(N / 64))++a.take (64-N % 64))++e.drop (N % 64+k)).length=64:=by
  rw[fQ,fE,fQ,c,l,kx];omega
 unfold fb;dsimp only;simp only[E,ab,aE (show(64:Int)≠0 by decide),ae,D,v,em,t,w,u,m,z,n];by_cases F:N % 64+k=64
 ·
  have G:e.drop (N % 64+k)=[]:=by rw[GU<|by omega]
  simp only[aJ<|show((N % 64+k:Nat):Int)=64 by omega,ab,G,xN] at j⊢;generalize B:av (b.drop (64*(N / 64))++a.take (64-N % 64))=blk at *;have C:(N+k) / 64=N / 64+1:=by omega
  have p:(N+k) % 64=0:=by omega
  have q:((b++a.take (64-N % 64)).drop<|64*(N / 64)).take 64=b.drop (64*(N / 64))++a.take (64-N % 64):=by
   rw[MQ<|by omega,Bd (by rw[fQ,c,l];omega)]
  have H:∃I:Bool,I=true/\(af (aj (nt<|decide<|64<=N) (af (sE ()) λJ:List Int×ai=>some ((),((true,J.1,()),blk,((N+k:Nat):Int),()),()))<|some ((),((decide<|64<=N,(if 64<=N then xM b (N / 64) else fy 8),()),blk,((N+k:Nat):Int),()),())) λy:ai×Cw×ai=>some y)=some ((),((true,xM b (N / 64),()),blk,((N+k:Nat):Int),()),()):=by
   refine⟨true,rfl,?_⟩;by_cases d:64<=N
   .simp only[d,Bw,ky];rfl
   .have:N / 64=0:=by omega
    simp only[d,Wb,pR,this,Yf];rfl
  obtain⟨_,_,H⟩:=H;have K:(aj (nt<|decide<|64<=N) (af (sE ()) λJ:List Int×ai=>some ((),((true,J.1,()),blk,((N+k:Nat):Int),()),())) (some ((),((decide<|64<=N,(if 64<=N then xM b (N / 64) else fy 8),()),blk,((N+k:Nat):Int),()),())):Option (ai×Cw×ai))=some ((),((true,xM b (N / 64),()),blk,((N+k:Nat):Int),()),()):=by
   have:∀o:Option (ai×Cw×ai),(af o λy=>some y)=o:=by intro o;cases o<;>rfl
   exact(this _).symm.trans H
  rw[K,aa,Yb,aa,Px blk j,aa];dsimp only;have L:=yk b (N / 64);have X:=lW (xM b<|N / 64) 0 (i:=0) (k:=0) rfl (by omega);have Y:=lW (xM b<|N / 64) 0 (i:=1) (k:=1) rfl (by omega);have Z:=lW (xM b<|N / 64) 0 (i:=2) (k:=2) rfl (by omega);have i3:=lW (xM b<|N / 64) 0 (i:=3) (k:=3) rfl (by omega);have i4:=lW (xM b<|N / 64) 0 (i:=4) (k:=4) rfl (by omega);have i5:=lW (xM b<|N / 64) 0 (i:=5) (k:=5) rfl (by omega);have i6:=lW (xM b<|N / 64) 0 (i:=6) (k:=6) rfl (by omega);have i7:=lW (xM b<|N / 64) 0 (i:=7) (k:=7) rfl (by omega);have w0:within 0 8=true:=by decide
  have w1:within 1 8=true:=by decide
  have w2:within 2 8=true:=by decide
  have w3:within 3 8=true:=by decide
  have w4:within 4 8=true:=by decide
  have w5:within 5 8=true:=by decide
  have w6:within 6 8=true:=by decide
  have w7:within 7 8=true:=by decide
  simp only[w0,w1,w2,w3,w4,w5,w6,w7,ab,X,Y,Z,i3,i4,i5,i6,i7,aa];have hr:=U0 (uS blk) (DH blk) (of8<|xM b<|N / 64) () ();rw[show((xM b<|N / 64).getD 0 0,(xM b<|N / 64).getD 1 0,(xM b<|N / 64).getD 2 0,(xM b<|N / 64).getD 3 0,(xM b<|N / 64).getD 4 0,(xM b<|N / 64).getD 5 0,(xM b<|N / 64).getD 6 0,(xM b<|N / 64).getD 7 0,(0:Int),())=qP (of8<|xM b<|N / 64) 0 from rfl,hr,aa];rw[aa9 _ ((true,xM b (N / 64),()),blk,((N+k:Nat):Int),()) L,aa,aa,cS];dsimp only;refine⟨_,by rw[A],?_⟩;refine⟨blk,?_,j,?_⟩
  .rw[f];have d:64<=N+k:=by omega
   simp only[d,Bw,ky];have M:xM (b++a.take (64-N % 64)) ((N+k) / 64)=xv (xM b<|N / 64) (jB<|DI sJ (uS blk) (of8<|xM b<|N / 64) 64) 8:=by
    rw[C];simp only[xM];rw[WG b _ _<|by omega,q,B];rfl
   rw[M]
  .rw[f,p,C,MY,GU (by omega)];rfl
 .have hnf:N % 64+k<64:=by omega
  simp only[aE<|show((N % 64+k:Nat):Int)≠64 by omega,ae,aa,cS];refine⟨_,by rw[A],?_⟩;have C:(N+k) / 64=N / 64:=by omega
  have p:(N+k) % 64=N % 64+k:=by omega
  refine⟨_,?_,j,?_⟩
  .rw[f,C];by_cases d:64<=N
   .have g:64<=N+k:=by omega
    simp only[d,g,Bw,ky];rw[WG b _ _<|by omega]
   .have g:¬64<=N+k:=by omega
    simp only[d,g,Wb,pR]
  .rw[f,p,C,TN (by rw[fE,fQ,c,l];omega),Bd (by rw[fE,fQ,c,l];omega),MQ (by omega)]
theorem abb:∀(n:Nat) (part all:aq) (st:Cw),part.length<=n->Inv st all->all.length+part.length<1152921504606846976 ->
  ∃a,Loop fb ((part,()),st,())=some (([],()),a,())/\Inv a (all++part):=by
 intro n;induction n with
 | zero =>
   intro part all st h b c;obtain rfl:part=[]:=Qx (by omega);refine⟨st,?_,by rw[xN];exact b⟩;rw[aN];have:fb (([],()),st,())=some (.inr (([],()),st,())):=by
    unfold fb;dsimp only;rw[show nt (bt [] [])=false from rfl,ae,dG]
   rw[this];rfl
 | succ n f =>
   intro part all st h b c;by_cases d:part=[]
   .subst d;exact f [] all st (by simp) b c
   .obtain⟨e,i,j⟩:=aba part all st d b c;have k:all.length % 64<64:=wT _ (by decide);have l:0<part.length:=by cases part with|nil=>exact absurd rfl d|cons=>simp
    obtain⟨a,m,g⟩:=f (part.drop<|64-all.length % 64) _ e (by rw[kx];omega) j (by rw[fQ,fB,kx];omega);refine⟨a,?_,by rw[kR,uu] at g;exact g⟩;rw[aN,i];exact m
theorem HZ(a b:aq)(d:Cw)(e:Inv d b)(f:b.length+a.length<1152921504606846976):∃c,fu ((a,()),d,())=some ((),c,())/\Inv c (b++a):=by
 obtain⟨c,g,h⟩:=abb a.length a b d (cg _) e f;refine⟨c,?_,h⟩;unfold fu;dsimp only;rw[g,aa]
def zs(n:Nat):Nat:=(119-n % 64) % 64
def dB(n k:Nat):Int:=jC .u8 (mu .u64 (gX .u64 (jC .u64 (n:Int)) 8) ((8*k:Nat):Int))
def E9(n:Nat):List Int:=[dB n 7,dB n 6,dB n 5,dB n 4,dB n 3,dB n 2,dB n 1,dB n 0]
def pad(s:aq):aq:=s++[128]++List.replicate (zs s.length) 0++bh (E9 s.length)
theorem Cx(s:aq):(pad s).length=s.length+1+zs s.length+8:=by simp[pad,bh,E9];omega
theorem WH(s:aq):(pad s).length % 64=0:=by rw[Cx];unfold zs;omega
theorem oR(s:aq):bh (av s)=s:=by
 unfold bh av;rw[M0]
 conv=>rhs;rw[<-List.map_id s]
 apply Il;intro x _;simp
theorem wy(a b:List Int):bh (a++b)=bh a++bh b:=by simp[bh]
theorem Ss(s:aq)(c:s.length<=1048576):Loop jR (((),()),av s++[128],())=some (((),()),av s++[128]++fy (zs s.length),()):=by
 have d:zs s.length<64:=wT _ (by decide);have:=cR (f:=jR) (r:=(((),()),av s++[128]++fy (zs s.length),())) (zs s.length) (λj=>(((),()),av s++[128]++fy j,())) (λj a=>by
  unfold jR;dsimp only;have el:len (av s++[128]++fy j)=((s.length+1+j:Nat):Int):=by unfold len;simp[av,fy];omega
  rw[aE<|by decide,ae,el,show((64:Int))=((64:Nat):Int) from rfl,uT,aE (by unfold zs at a;omega),show nt false=true from rfl,ab,dz (by simp only[plus,len,Lm];omega),ab,cS]
  congr 4
  show av s++[128]++fy j++[0]=_
  rw[kR,show fy j++[0]=fy (j+1) from by simp[fy,List.replicate_succ']])
  (by
   unfold jR;dsimp only;have el:len (av s++[128]++fy (zs s.length))=((s.length+1+zs s.length:Nat):Int):=by unfold len;simp[av,fy];omega
   rw[aE<|by decide,ae,el,show((64:Int))=((64:Nat):Int) from rfl,uT,aJ (by unfold zs;omega),show nt true=false from rfl,ae,dG])
 have b:av s++[128]++fy 0=av s++[128]:=by simp[fy]
 simp only[b] at this;exact this
theorem Yg(s:aq)(b:List Int)(p:s.length<=1048576)(q:b.length<=2097152)(u:ai):Loop (dR (s,u)) (((),7,()),b,())=some (((),-1,()),b++E9 s.length,()):=by
 have step:∀(k:Nat) (c:List Int),k<=7->c.length<=2097160->dR (s,u) (((),(k:Int),()),c,())=some (.inl (((),(k:Int)-1,()),c++[dB s.length k],())):=by
  intro k c d e;unfold dR;dsimp only;have f:gX .i64 8 (k:Int)=((8*k:Nat):Int):=by rw[zK (by omega)<|by omega];omega
  rw[b6<|by omega,ab,f,aB (by omega),ae,dz (by simp only[plus,len,Lm];omega),ab,de (by omega) (by omega),cS];rfl
 have a:∀c:List Int,dR (s,u) (((),(-1:Int),()),c,())=some (.inr (((),-1,()),c,())):=by
  intro c;unfold dR;dsimp only;rw[eF<|by decide,ae,dG]
 have L:∀(k:Nat) (c:List Int),k<=7->c.length<=2097160->Loop (dR (s,u)) (((),(k:Int),()),c,())=Loop (dR (s,u)) (((),(k:Int)-1,()),c++[dB s.length k],()):=by
  intro k c d e;rw[aN,step k c d e];rfl
 have g:=L 7 b (by omega) (by omega);have h:=L 6 (b++[dB s.length 7]) (by omega) (by simp;omega);have i:=L 5 (b++[dB s.length 7]++[dB s.length 6]) (by omega) (by simp;omega);have j:=L 4 (b++[dB s.length 7]++[dB s.length 6]++[dB s.length 5]) (by omega) (by simp;omega);have l:=L 3 (b++[dB s.length 7]++[dB s.length 6]++[dB s.length 5]++[dB s.length 4]) (by omega) (by simp;omega);have m:=L 2 (b++[dB s.length 7]++[dB s.length 6]++[dB s.length 5]++[dB s.length 4]++[dB s.length 3]) (by omega) (by simp;omega);have n:=L 1 (b++[dB s.length 7]++[dB s.length 6]++[dB s.length 5]++[dB s.length 4]++[dB s.length 3]++[dB s.length 2]) (by omega) (by simp;omega);have o:=L 0 (b++[dB s.length 7]++[dB s.length 6]++[dB s.length 5]++[dB s.length 4]++[dB s.length 3]++[dB s.length 2]++[dB s.length 1]) (by omega) (by simp;omega);refine g.trans (h.trans<|i.trans<|j.trans<|l.trans<|m.trans<|n.trans<|o.trans ?_);have:b++[dB s.length 7]++[dB s.length 6]++[dB s.length 5]++[dB s.length 4]++[dB s.length 3]++[dB s.length 2]++[dB s.length 1]++[dB s.length 0]=b++E9 s.length:=by simp[E9]
 rw[this];show Loop (dR (s,u)) (((),-1,()),b++E9 s.length,())=_
 rw[aN,a];rfl
theorem Yh(s:aq)(a:s.length<=1048576):rQ (s,())=some (pad s,()):=by
 have b:zs s.length<64:=wT _ (by decide);unfold rQ;dsimp only;rw[dz<|by unfold len;omega,ab,dz (by simp only[plus,len,Lm,fE];omega),ab,show app (av s) ([128]:List Int)=av s++[128] from rfl,Ss s a,aa];dsimp only;rw[Yg s _ a<|by simp[fE,fy];omega,aa];dsimp only;rw[wy,wy,wy,oR];unfold pad;have:bh (fy<|zs s.length)=List.replicate (zs s.length) 0:=by unfold bh fy;rw[List.map_replicate];rfl
 rw[this];rfl
theorem U2(t:aq)(c:t.length % 64=0)(d:t.length<=2097152)(u:ai):Loop (mF (t,u)) ((0,()),H0,())=some (((t.length:Int),()),xM t<|t.length / 64,()):=by
 have:=cR (f:=mF (t,u)) (r:=(((t.length:Int),()),xM t<|t.length / 64,())) (t.length / 64) (λj=>((((64*j:Nat):Int),()),xM t j,())) (λj e=>by
  unfold mF;dsimp only;have a:64*j+64<=t.length:=by omega
  rw[en (by omega)<|by omega,b6 (by unfold len;omega),ab,aR (by omega) (by omega) (by unfold len;omega),ab];have b:sub t ((64*j:Nat):Int) (minus (((64*j:Nat):Int)+64) ((64*j:Nat):Int))=(t.drop<|64*j).take 64:=by
   unfold sub minus;rw[qZ,show(((64*j:Nat):Int)+64-((64*j:Nat):Int)).toNat=64 by omega]
  rw[b,Ye _ (yk t j) _ (by rw[fB,kx];omega),aa,cS];rw[show(((64*j:Nat):Int)+64)=((64*(j+1):Nat):Int) by omega];rfl)
  (by
   unfold mF;dsimp only;have a:64*(t.length / 64)=t.length:=by omega
   rw[a,en (by omega) (by omega),eF (by unfold len;omega),ae,dG])
 exact this
def aio(h:List Int)(i:Nat):Int:=jC .u8 (mu .u32 (h.getD (i / 4) 0) ((24-8*(i % 4):Nat):Int))
def Su(h:List Int):Nat->List Int
 | 0=>fy 32
 | i+1=>(Su h i).set i (aio h i)
theorem zR(h:List Int)(i:Nat):(Su h i).length=32:=by
 induction i with
 | zero=>rfl
 | succ i a=>simp[Su,a]
theorem WI:([0,0,0,0,0,0,0,0,0,0,0,0,0,0,0,0,0,0,0,0,0,0,0,0,0,0,0,0,0,0,0,0]:List Int)=fy 32:=rfl
theorem abc{a:Nat}(h:a<4611686018427387904):GX .i64 (a:Int) 4=((a / 4:Nat):Int):=by
 have e:((a:Int).tdiv 4)=((a / 4:Nat):Int):=by rw[Int.tdiv_eq_ediv_of_nonneg<|by omega];exact(Int.natCast_ediv a 4).symm
 unfold GX;rw[e];have:=yc (a:=((a / 4:Nat):Int)) (by omega) (by omega);unfold jC at this;exact this
theorem Sv{h o:List Int}(a:h.length=8)(b:o.length=32)(i:Nat)(c:i<32):GX .i64 (i:Int) 4=((i / 4:Nat):Int)/\cC .i64 24 (gX .i64 8<|iE (i:Int) 4)=((24-8*(i % 4):Nat):Int):=by
 refine⟨abc<|by omega,?_⟩;rw[show(4:Int)=((4:Nat):Int) from rfl,uT,zK (by omega) (by omega),de (by omega) (by omega)];omega
theorem ac3(h:List Int)(a:h.length=8)(q:Int×ai)(u:ai):Loop (mG (q,h,u)) ((0,()),fy 32,())=some (((32:Int),()),Su h 32,()):=by
 refine cR (f:=mG (q,h,u)) 32 (λi=>(((i:Int),()),Su h i,())) (λi b=>?_) ?_
 .have c:=zR h i;obtain⟨d,e⟩:=Sv a c i b;unfold mG;dsimp only;rw[aK<|by omega,ab,aE (by decide),ae,d,aW (by omega) (by omega),ab,eW h 0 (by omega),aa,ae,e,aB (by omega),ae,aW (by omega) (by omega),ab,
   eW _ 0 (by omega),aa,aa,aa,cS,aL (by omega),gm]
  rfl
 .unfold mG;dsimp only;rw[aB<|by omega,ae,dG];rfl
theorem ac4(h w:List Int)(j:h.length=8)(g:Bool)(n:Int)(a b c d e:ai)(r:ai):Loop (gq (r,((g,h,a),w,n,b),c)) ((0,()),fy 32,())=some (((32:Int),()),Su h 32,()):=by
 refine cR (f:=gq (r,((g,h,a),w,n,b),c)) 32 (λi=>(((i:Int),()),Su h i,())) (λi k=>?_) ?_
 .have l:=zR h i;obtain⟨m,o⟩:=Sv j l i k;unfold gq;dsimp only;rw[aK<|by omega,ab,aE (by decide),ae,m,aW (by omega) (by omega),ab,eW h 0 (by omega),aa,ae,o,aB (by omega),ae,aW (by omega) (by omega),ab,
   eW _ 0 (by omega),aa,aa,aa,cS,aL (by omega),gm]
  rfl
 .unfold gq;dsimp only;rw[aB<|by omega,ae,dG];rfl
def Zn(s:aq):List Int:=Su (xM (pad s)<|(pad s).length / 64) 32
theorem ph(s:aq):(Zn s).length=32:=zR _ _
theorem U3(s:aq)(a:s.length<=1048576):vD (s,())=some (Zn s,()):=by
 have b:zs s.length<64:=wT _ (by decide);unfold vD;rw[LZ,aa];dsimp only;rw[Yh s a,aa,U2 _ (WH s) (by rw[Cx];omega),aa,WI,ac3 _ (yk _ _),aa];dsimp only[Zn]
theorem Yi(s:aq)(r:s.length<=1152921504606840000)(b:Cw)(d:Inv b (s++[128])):∃a,Loop dZ ((),b,())=some ((),a,())/\Inv a (s++[128]++List.replicate (zs s.length) 0):=by
 have t:zs s.length<64:=wT _ (by decide);have key:∀(m j:Nat) (b:Cw),j+m=zs s.length->Inv b (s++[128]++List.replicate j 0)->∃a,Loop dZ ((),b,())=some ((),a,())/\Inv a (s++[128]++List.replicate (zs s.length) 0):=by
  intro m;induction m with
  | zero =>
    intro j b g d;obtain rfl:j=zs s.length:=by omega
    refine⟨b,?_,d⟩;obtain⟨c,rfl,i,k⟩:=d;rw[aN];have:dZ ((),((decide<|64<=(s++[128]++List.replicate (zs s.length) 0).length,(if 64<=(s++[128]++List.replicate (zs s.length) 0).length then xM (s++[128]++List.replicate (zs s.length) 0) ((s++[128]++List.replicate (zs s.length) 0).length / 64) else fy 8),()),c,((s++[128]++List.replicate (zs s.length) 0).length:Int),()),())=some (.inr ((),((decide<|64<=(s++[128]++List.replicate (zs s.length) 0).length,(if 64<=(s++[128]++List.replicate (zs s.length) 0).length then xM (s++[128]++List.replicate (zs s.length) 0) ((s++[128]++List.replicate (zs s.length) 0).length / 64) else fy 8),()),c,((s++[128]++List.replicate (zs s.length) 0).length:Int),()),())):=by
     have l:(s++[128]++List.replicate (zs s.length) (0:UInt8)).length=s.length+1+zs s.length:=by simp;omega
     unfold dZ;dsimp only;rw[aE<|by decide,ae,l,show((64:Int))=((64:Nat):Int) from rfl,uT,aJ (by unfold zs;omega),show nt true=false from rfl,ae,dG]
    rw[this];rfl
  | succ m n =>
    intro j b g d;obtain⟨e,o,h⟩:=HZ [0] _ b d (by simp;omega);obtain⟨a,p,q⟩:=n (j+1) e (by omega) (by
     rw[kR,show List.replicate j (0:UInt8)++[0]=List.replicate (j+1) 0 from by rw[List.replicate_succ']] at h;exact h)
    refine⟨a,?_,q⟩;rw[aN];have f:b.2.2.1=((s.length+1+j:Nat):Int):=by
     obtain⟨c,rfl,i,k⟩:=d;simp;omega
    have:dZ ((),b,())=some (.inl ((),e,())):=by
     unfold dZ;dsimp only;rw[aE<|by decide,ae,f,show((64:Int))=((64:Nat):Int) from rfl,uT,aE (by unfold zs at g;omega),show nt false=true from rfl,ab,o,aa,cS]
    rw[this];exact p
 exact key (zs s.length) 0 b (by omega) (by simpa using d)
theorem abd(n:Nat)(j:n<=1152921504606840000)(b:Cw)(a:b.2.2.1=(n:Int))(u v:ai):Loop (fc (u,b,v)) ((0,()),fy 8,())=some (((8:Int),()),E9 n,()):=by
 obtain⟨d,e,m,q⟩:=b;dsimp only at a;subst a;have step:∀(k:Nat) (c:List Int),k<8->c.length=8->fc (u,(d,e,(n:Int),q),v) (((k:Int),()),c,())=some (.inl ((((k+1:Nat):Int),()),c.set (7-k)<|dB n k,())):=by
  intro k c g l;unfold fc;dsimp only;have h:gX .i64 8 (k:Int)=((8*k:Nat):Int):=by rw[zK (by omega)<|by omega];omega
  have i:cC .i64 7 (k:Int)=((7-k:Nat):Int):=by rw[de (by omega)<|by omega];omega
  rw[aK<|by omega,ab,h,aB (by omega),ae,i,aW (by omega) (by omega),ab,eW c 0 (by omega),aa,aa,aa,cS,aL (by omega),gm];rfl
 have:=cR (f:=fc (u,(d,e,(n:Int),q),v)) (r:=(((8:Int),()),E9 n,())) 8 (λk=>(((k:Int),()),(match k with
  | 0=>fy 8
  | 1=>[0,0,0,0,0,0,0,dB n 0]
  | 2=>[0,0,0,0,0,0,dB n 1,dB n 0]
  | 3=>[0,0,0,0,0,dB n 2,dB n 1,dB n 0]
  | 4=>[0,0,0,0,dB n 3,dB n 2,dB n 1,dB n 0]
  | 5=>[0,0,0,dB n 4,dB n 3,dB n 2,dB n 1,dB n 0]
  | 6=>[0,0,dB n 5,dB n 4,dB n 3,dB n 2,dB n 1,dB n 0]
  | 7=>[0,dB n 6,dB n 5,dB n 4,dB n 3,dB n 2,dB n 1,dB n 0]
  | _=>E9 n:List Int),())) (λk g=>by
    rcases(by omega:k=0\/k=1\/k=2\/k=3\/k=4\/k=5\/k=6\/k=7) with rfl|rfl|rfl|rfl|rfl|rfl|rfl|rfl<;>exact(step _ _ (by omega) rfl).trans rfl)
  (by
   unfold fc;dsimp only;rw[aB<|by omega,ae,dG];rfl)
 exact this
theorem ac5(s:aq)(p:s.length<=1048576)(a:Cw)(i:Inv a s)(u v:ai):nj (u,a,v)=some ((Zn s,()),a,()):=by
 have q:zs s.length<64:=wT _ (by decide);have c:a.2.2.1=(s.length:Int):=by obtain⟨b,rfl,_⟩:=i;rfl
 obtain⟨d,j,k⟩:=HZ [128] s a i (by simp;omega);obtain⟨e,l,m⟩:=Yi s (by omega) d k;obtain⟨f,n,o⟩:=HZ (bh<|E9 s.length) _ e m (by simp[bh,E9];omega);unfold nj;dsimp only;rw[WI,show bh ([128]:List Int)=[128] from rfl,j,aa];dsimp only;rw[l,aa];dsimp only;rw[show([0,0,0,0,0,0,0,0]:List Int)=fy 8 from rfl,abd s.length (by omega) a c,aa,aR (by decide) (by decide) (by decide),ab];dsimp only;rw[show sub (E9 s.length) 0 (minus 8 0)=E9 s.length from rfl,n,aa];have g:Inv f (pad s):=o;obtain⟨b,rfl,r,t⟩:=g;have h:64<=(pad s).length:=by have:=WH s;rw[Cx] at this⊢;omega
 simp only[h,Bw,ky];rw[ac4 _ _ (yk _ _) _ _ () () () () () (),aa];dsimp only[Zn]
theorem U4(s:aq)(b:s.length<=1048576):AU (s,())=some (Zn s,()):=by
 obtain⟨a,c,d⟩:=HZ s [] aa8 ain (by simp;omega);unfold AU;dsimp only;rw[show((false,([0,0,0,0,0,0,0,0]:List Int),()),([0,0,0,0,0,0,0,0,0,0,0,0,0,0,0,0,0,0,0,0,0,0,0,0,0,0,0,0,0,0,0,0,0,0,0,0,0,0,0,0,0,0,0,0,0,0,0,0,0,0,0,0,0,0,0,0,0,0,0,0,0,0,0,0]:List Int),(0:Int),())=aa8 from rfl,c,aa];dsimp only;rw[ac5 s b a<|by simpa using d,aa]
abbrev ajl:=(Bool×aq×Int×ai)×Cw×Cw×ai
def U5:aq:=[48,49,50,51,52,53,54,55,56,57,97,98,99,100,101,102]
def hx(n:Nat):UInt8:=U5.getD n 0
def rr:aq->aq
 | []=>[]
 | b::r=>hx (b.toNat / 16)::hx (b.toNat % 16)::rr r
theorem sK(l:aq):(rr l).length=2*l.length:=by
 induction l with
 | nil=>rfl
 | cons b r a=>simp only[rr,dd,a];omega
theorem abe(a b:aq):rr (a++b)=rr a++rr b:=by
 induction a with
 | nil=>rfl
 | cons x r c=>simp only[zi,rr,c]
theorem ac6:∀n:Fin 256,idx U5 (mu .u8 (n.val:Int) 4)=some (hx<|n.val / 16):=by decide +kernel
theorem ac7:∀n:Fin 256,idx U5 (lP .u8 (n.val:Int) 15)=some (hx<|n.val % 16):=by decide +kernel
theorem aeK(b:UInt8):idx U5 (mu .u8 (u8 b) 4)=some (hx<|b.toNat / 16):=ac6 ⟨b.toNat,b.toNat_lt⟩
theorem aeL(b:UInt8):idx U5 (lP .u8 (u8 b) 15)=some (hx<|b.toNat % 16):=ac7 ⟨b.toNat,b.toNat_lt⟩
theorem xw(s:aq){k:Nat}(h:k<s.length):idx (av s) (k:Int)=some (u8 s[k]):=by
 rw[tK];simp[av,u8,h]
theorem AX(s:aq){k:Nat}(h:k<s.length):idx s (k:Int)=some s[k]:=by
 rw[tK];simp[h]
theorem jZ(s:aq):len (av s)=(s.length:Int):=by simp[len,av]
theorem Py(s:aq){k:Nat}(h:k<s.length):s.take (k+1)=s.take k++[s[k]]:=by
 rw[Be,fN h];rfl
theorem WJ(s:aq){k:Nat}(h:k<s.length):av (rr<|s.take<|k+1)=(av (rr<|s.take k)++[u8<|hx<|s[k].toNat / 16])++[u8<|hx<|s[k].toNat % 16]:=by
 rw[Py s h,abe,r4,kR];rfl
theorem abf(s:aq)(a:s.length<=1048576){k:Nat}(h:k<s.length)(x y:Int) :
  fits (plus (len<|av<|rr<|s.take k)<|len [x])=true/\fits (plus (len<|av (rr<|s.take k)++[x])<|len [y])=true:=by
 constructor
 .apply dz;rw[jZ,sK];simp only[fB,plus,len,dd,eB];omega
 .apply dz;have:(av (rr<|s.take k)++[x]).length=2*min k s.length+1:=by
   rw[fQ,fE,sK,fB];rfl
  simp only[plus,len,this,dd,eB];omega
theorem WK(s:aq)(b:s.length<=1048576):qa (s,())=some (rr s,()):=by
 unfold qa;dsimp only;rw[dz<|by simp only[len];omega,ab];have key:Loop (kU (s,())) ((0,()),((),(),()),[],())=some (((s.length:Int),()),((),(),()),av<|rr s,()):=by
  have:=cR (f:=kU (s,())) (r:=(((s.length:Int),()),((),(),()),av<|rr s,())) s.length (λk=>(((k:Int),()),((),(),()),av<|rr<|s.take k,())) (λk a=>by
   unfold kU;dsimp only;obtain⟨c,d⟩:=abf s b a (u8<|hx<|s[k].toNat / 16) (u8<|hx<|s[k].toNat % 16);rw[jZ,aK (by omega),ab,aW (by omega) (by omega),ab,xw s a,aa,aB (by decide),ae];rw[show([48,49,50,51,52,53,54,55,56,57,97,98,99,100,101,102]:aq)=U5 from rfl,aeK,aa,c,ab,aeL,aa];unfold app;rw[d,ab,cS,aL (by omega),WJ s a]) (by
   unfold kU;dsimp only;rw[jZ,aB (by omega),ae,dG,wQ])
  exact this
 rw[key,aa];dsimp only;rw[oR]
theorem aip:∀n:Fin 16,lD ((n.val:Int),())=some (u8<|hx n.val,()):=by decide +kernel
theorem H2{n:Nat}(h:n<16):lD ((n:Int),())=some (u8<|hx n,()):=aip ⟨n,h⟩
theorem abg:∀n:Fin 256,GX .i64 (jC .i64 (n.val:Int)) 16=((n.val / 16:Nat):Int):=by decide +kernel
theorem abh:∀n:Fin 256,iE (jC .i64 (n.val:Int)) 16=((n.val % 16:Nat):Int):=by decide +kernel
theorem aeM(b:UInt8):GX .i64 (jC .i64<|u8 b) 16=((b.toNat / 16:Nat):Int):=abg ⟨b.toNat,b.toNat_lt⟩
theorem aeN(b:UInt8):iE (jC .i64<|u8 b) 16=((b.toNat % 16:Nat):Int):=abh ⟨b.toNat,b.toNat_lt⟩
theorem U6(s:aq)(b:s.length<=1048576):vE (s,())=some (rr s,()):=by
 unfold vE;have key:Loop (mH (s,())) (((),0,()),[],())=some (((),(s.length:Int),()),av<|rr s,()):=by
  have:=cR (f:=mH (s,())) (r:=(((),(s.length:Int),()),av<|rr s,())) s.length (λk=>(((),(k:Int),()),av<|rr<|s.take k,())) (λk a=>by
   unfold mH;dsimp only;obtain⟨c,d⟩:=abf s b a (u8<|hx<|s[k].toNat / 16) (u8<|hx<|s[k].toNat % 16);have e:=s[k].toNat_lt;rw[show len s=(s.length:Int) from rfl,aK (by omega),ab,AX s a,aa,aE (by decide),ae,aeM,H2 (by omega),aa];dsimp only;rw[c,ab,aa,ae,aeN,H2 (by omega),aa];dsimp only;unfold app;rw[d,ab,cS,aL (by omega),WJ s a]) (by
   unfold mH;dsimp only;rw[show len s=(s.length:Int) from rfl,aB (by omega),ae,dG,wQ])
  exact this
 rw[key,aa];dsimp only;rw[oR]
def hv(c:UInt8):Int:=Lib.indexByte U5 c
theorem hvT:∀n:Fin 256,(hv (UInt8.ofNat n.val)=-1/\∀j:Fin 16,hx j.val≠UInt8.ofNat n.val)\/∃j:Fin 16,hv (UInt8.ofNat n.val)=(j.val:Int)/\hx j.val=UInt8.ofNat n.val/\∀i:Fin 16,i.val<j.val->hx i.val≠UInt8.ofNat n.val:=by decide +kernel
theorem JY(c:UInt8):(hv c=-1/\∀j:Nat,j<16->hx j≠c)\/∃j:Nat,j<16/\hv c=(j:Int)/\hx j=c/\∀i:Nat,i<j->hx i≠c:=by
 have h:=hvT ⟨c.toNat,c.toNat_lt⟩;have e:UInt8.ofNat c.toNat=c:=by simp
 simp only[e] at h;rcases h with ⟨a,b⟩|⟨j,a,b,f⟩
 .exact .inl ⟨a,λj g=>b ⟨j,g⟩⟩
 .exact .inr ⟨j.val,j.isLt,a,b,λi d=>f ⟨i,Nat.lt_trans d j.isLt⟩ d⟩
theorem aec:∀n:Fin 16,hv (hx n.val)=(n.val:Int):=by decide +kernel
theorem U7{a b:UInt8}(h:u8 a=u8 b):a=b:=by
 have:a.toNat=b.toNat:=by unfold u8 at h;omega
 exact QR.1 this
theorem ND(c:UInt8):oi (u8 c,())=some (hv c,()):=by
 unfold oi;have step:∀(r k:Nat),k<16->hx k≠c->dS (u8 c,()) (((r:Int),(k:Int),()),())=some (.inl (((r:Int),((k+1:Nat):Int),()),())):=λr k a b=>by
  unfold dS;dsimp only;rw[aK<|by omega,ab,H2 a,aa,aE (λe=>b (U7 e)),ae,aL (by omega)]
 rcases JY c with ⟨d,g⟩|⟨j,h,d,g,i⟩
 .have:=cR (f:=dS (u8 c,())) (r:=(0,(((0:Nat):Int),((16:Nat):Int),()),())) 16 (λk=>((((0:Nat):Int),(k:Int),()),())) (λk a=>step 0 k a (g k a)) (by
   unfold dS;dsimp only;rw[aB<|by decide,ae])
  rw[show Loop (dS (u8 c,())) ((0,0,()),())=_ from this,aa];dsimp only;rw[show dJ 0 0=true from rfl,ab,d]
 .have:=cR (f:=dS (u8 c,())) (r:=(1,((j:Int),(j:Int),()),())) j (λk=>((((0:Nat):Int),(k:Int),()),())) (λk a=>step 0 k (by omega) (i k a)) (by
   unfold dS;dsimp only;rw[aK<|by omega,ab,H2 h,aa,aJ (by rw[g]),ab])
  rw[show Loop (dS (u8 c,())) ((0,0,()),())=_ from this,aa];dsimp only;rw[show dJ 1 0=false from rfl,ae,d]
def mM:aq->Option aq
 | []=>some []
 | [_]=>none
 | a::b::r=>if hv a<0\/hv b<0 then none else(mM r).map (UInt8.ofNat (16*(hv a).toNat+(hv b).toNat)::·)
theorem af9:∀(i j:Fin 16),jC .u8 (aF .i64 (gX .i64 16 (i.val:Int)) (j.val:Int))=u8 (UInt8.ofNat<|16*i.val+j.val):=by decide +kernel
theorem Sw(l:aq)(k:Nat)(h:k<=l.length):sub l (k:Int) (minus (len l) (k:Int))=l.drop k:=by
 unfold sub minus len;rw[qZ,Bd (by rw[kx];omega)]
def ans:Option aq->aq×Bool×ai
 | some l=>(l,true,())
 | none=>([],false,())
theorem U8:∀(n:Nat) (s:aq),s.length<=n->s.length % 2=1->mM s=none:=by
 intro n;induction n using Nat.strongRecOn with
 | _ n d =>
   intro s c h
   match s,c,h with
   | [],_,h=>simp at h
   | [_],_,_=>rfl
   | a::b::r,c,h =>
     simp only[dd] at c h;simp only[mM];split
     .rfl
     .rw[d r.length (by omega) r (cg _)<|by omega];rfl
theorem uU{a b:Nat}(h:a+b<4611686018427387904):aF .i64 (a:Int) (b:Int)=((a+b:Nat):Int):=by
 rw[en (by omega)<|by omega];omega
theorem L1(s:aq)(z:s.length<=1048576):∀(n i:Nat) (acc:List Int),s.length-i<=n->i<=s.length->(s.length-i) % 2=0->acc.length<=i ->
  ∃q,Loop (gP (s,())) ((([]:aq),false,(),(i:Int),()),acc,())=some q/\(match mM (s.drop i) with
   | some l=>q.1=0/\q.2.2.1=acc++av l
   | none=>q.1=1/\q.2.1.1=[]/\q.2.1.2.1=false):=by
 intro n;induction n using Nat.strongRecOn with
 | _ n t =>
   intro i acc A B C D;rw[aN];by_cases d:i<s.length
   .have o:i+1<s.length:=by omega
    have hd:s.drop i=s[i]::s[i+1]::s.drop (i+2):=by
     rw[wM d,wM o]
    rw[hd];generalize u:s[i]=a;generalize m:s[i+1]=b;have e0:gP (s,()) ((([]:aq),false,(),(i:Int),()),acc,())=(if hv a<0\/hv b<0 then some (.inr (1,([],false,(),(i:Int),()),acc,()))
      else some (.inl ((([]:aq),false,(),((i+2:Nat):Int),()),acc++[u8<|UInt8.ofNat<|16*(hv a).toNat+(hv b).toNat],()))):=by
     unfold gP;dsimp only;rw[aL<|by omega,aK (by simp only[len];omega),ab,AX s d,aa,u,ND,aa,AX s o,aa,m,ND,aa];dsimp only;by_cases e:hv a<0
     .rw[aK e,aA,ae,ab,aQ (.inl e)]
     .rw[aB<|by omega,aw,ab];by_cases f:hv b<0
      .rw[aK f,ab,aQ (.inr f)]
      .rw[aB<|by omega,ae,aM (by omega)];have v:jC .u8 (aF .i64 (gX .i64 16<|hv a)<|hv b)=u8 (UInt8.ofNat<|16*(hv a).toNat+(hv b).toNat):=by
        rcases JY a with ⟨h,_⟩|⟨j,w,h,_⟩
        .omega
        rcases JY b with ⟨p,_⟩|⟨k,x,p,_⟩
        .omega
        rw[h,p];exact af9 ⟨j,w⟩ ⟨k,x⟩
       rw[v,dz (by simp only[plus,len,dd,eB];omega),ab,show aF .i64 (i:Int) 2=((i+2:Nat):Int) from uU (b:=2) (by omega)];rfl
    rw[e0];by_cases c:hv a<0\/hv b<0
    .rw[aQ c];refine⟨_,rfl,?_⟩;simp only[mM,aQ c];exact⟨trivial,trivial,trivial⟩
    .rw[aM c];obtain⟨q,y,g⟩:=t (s.length-(i+2)) (by omega) (i+2) (acc++[u8<|UInt8.ofNat<|16*(hv a).toNat+(hv b).toNat]) (cg _) (by omega) (by omega) (by simp only[fQ,dd,eB];omega);refine⟨q,y,?_⟩;simp only[mM,aM c];cases r:mM (s.drop<|i+2) with
     | none=>rw[r] at g;exact g
     | some l =>
       rw[r] at g;refine⟨g.1,?_⟩;rw[g.2,kR];rfl
   .have:i=s.length:=by omega
    subst this;rw[Ix];refine⟨(0,([],false,(),(s.length:Int),()),acc,()),?_,rfl,by simp[av]⟩;unfold gP;dsimp only;rw[aL<|by omega,aB (by simp only[len];omega),ae];rfl
theorem DJ(s:aq)(c:s.length<=1048576):oj (s,())=some (ans<|mM s):=by
 unfold oj;dsimp only;rw[aE<|by decide,ae,show iE (len s) 2=((s.length % 2:Nat):Int) from uT s.length 2];rcases Nat.mod_two_eq_zero_or_one s.length with h|h
 .rw[h,show aX ((0:Nat):Int) 1=false from rfl,ae];obtain⟨q,d,a⟩:=L1 s c s.length 0 [] (by omega) (by omega) (by simpa using h) (by simp);rw[show Loop (gP (s,())) (([],false,(),0,()),[],())=some q from d,aa];rw[wR] at a;cases b:mM s with
  | none =>
    rw[b] at a;rw[a.1,show dJ 1 0=false from rfl,ae,a.2.1,a.2.2];rfl
  | some l =>
    rw[b] at a;rw[a.1,show dJ 0 0=true from rfl,ab,a.2,sW,oR];rfl
 .rw[h,show aX ((1:Nat):Int) 1=true from rfl,ab,U8 s.length s (cg _) h];rfl
theorem NF:∀l:aq,mM (rr l)=some l:=by
 intro l;induction l with
 | nil=>rfl
 | cons b r d =>
   have e:=b.toNat_lt;have a:=aec ⟨b.toNat / 16,by omega⟩;have c:=aec ⟨b.toNat % 16,by omega⟩;simp only at a c;simp only[rr,mM,a,c,d,Ex];rw[aM<|by omega]
   congr 2
   rw[qZ,qZ,show 16*(b.toNat / 16)+b.toNat % 16=b.toNat by omega];simp
def U9:aq:=[115,104,97,50,53,54,58]
def j0(s:aq):aq:=U9++rr (bh<|Zn s)
theorem Gx(s:aq):(j0 s).length=71:=by
 unfold j0;rw[fQ,sK];simp[bh,ph,U9]
theorem NG{a:Type}(l:List a)(n:Nat)(h:l.length=n):sub l 0 (minus n 0)=l:=by
 unfold sub minus;rw[show((0:Int).toNat)=0 from rfl,wR,Bd (by omega)]
theorem abj(s:aq)(a:s.length<=1048576):sF (s,())=some (j0 s,()):=by
 unfold sF;dsimp only;rw[U4 s a,aa,aR (by decide) (by decide) (by decide),ab];dsimp only;rw[show sub (Zn s) 0 (minus 32 0)=Zn s from NG _ 32 (ph s),WK _ (by simp[bh,ph]),aa];dsimp only;rw[dz<|by simp only[plus,len,sK,bh,qI,ph,dd,eB];omega,ab];rfl
theorem NH(s:aq)(a:s.length<=1048576):uO (s,())=some (j0 s,()):=by
 unfold uO;dsimp only;rw[U3 s a,aa,aR (by decide) (by decide) (by decide),ab];dsimp only;rw[show sub (Zn s) 0 (minus 32 0)=Zn s from NG _ 32 (ph s),U6 _ (by simp[bh,ph]),aa];dsimp only;rw[dz<|by simp only[plus,len,sK,bh,qI,ph,dd,eB];omega,ab];rfl
def ac8(t:aq):Int:=if t.length=71/\t.take 7=U9/\(mM<|t.drop 7).isSome=true then 0 else 2
theorem JZ(l:aq)(k:Nat):sub l 0 (minus (k:Int) 0)=l.take k:=by
 unfold sub minus;rw[show((0:Int).toNat)=0 from rfl,wR,Int.sub_zero,qZ]
theorem Pz(t:aq)(b:t.length<=1048576):rS (t,())=some (ac8 t,()):=by
 unfold rS ac8;dsimp only;by_cases a:t.length=71
 .rw[aJ<|by simp only[len];omega,aA,aw,ab,aR (by decide) (by decide) (by simp only[len];omega),ab,aa,
   show sub t 0 (minus 7 0)=t.take 7 from JZ t 7,show([115,104,97,50,53,54,58]:aq)=U9 from rfl]
  by_cases h:t.take 7=U9
  .rw[h,kT,aA,ae,aR (by decide) (by simp only[len];omega) (re _),ab,
    show sub t 7 (minus (len t) 7)=t.drop 7 from Sw t 7 (by omega),DJ _ (by rw[kx];omega),aa]
   cases c:mM (t.drop 7) with
   | none =>
     rw[aM<|by simp];show aj (nt false) (some (2,())) _=_
     rw[aw,ab]
   | some l =>
     show aj (nt true) _ _=_
     rw[aA,ae,aQ ⟨a,rfl,rfl⟩]
  .rw[show bt (t.take 7) U9=false from cJ h,aw,ab,aM λe=>h e.2.1]
 .rw[aE<|by simp only[len];omega,aw,aA,ae,aa,ab,aM λe=>a e.1]
theorem Yj(s:aq):(j0 s).take 7=U9:=F1 rfl
theorem Yk(s:aq):(j0 s).drop 7=rr (bh<|Zn s):=F0 rfl
theorem Va(s:aq):ac8 (j0 s)=0:=by
 have a:(mM<|(j0 s).drop 7).isSome=true:=by
  rw[Yk,NF];rfl
 exact aQ ⟨Gx s,Yj s,a⟩
def aiq(n k:Nat):UInt8:=UInt8.ofNat (48+n / 8 ^ k % 8)
def Vb(n:Nat):Nat->aq
 | 0=>[]
 | k+1=>aiq n k::Vb n k
set_option maxRecDepth 100000
def cm(p:UInt8->Bool)(s:aq):aq:=(s.reverse.dropWhile p).reverse
theorem uV{p:UInt8->Bool}(s:aq){x:UInt8}(h:p x=true):cm p (s++[x])=cm p s:=by
 simp[cm,Im,h]
theorem wz{p:UInt8->Bool}(s:aq){x:UInt8}(h:p x=false):cm p (s++[x])=s++[x]:=by
 simp[cm,Im,h]
theorem NI{p:UInt8->Bool}:∀(z s:aq),(∀x∈z,p x=true)->cm p (s++z)=cm p s:=by
 intro z;induction z with
 | nil=>intro s _;rw[xN]
 | cons x r a =>
   intro s h;rw[show s++x::r=(s++[x])++r by simp,a (s++[x]) (λy b=>h y (nX _ b)),uV s (h x<|mo ..)]
theorem abk{p:UInt8->Bool}{s:aq}(h:∀x,s.getLast?=some x->p x=false):cm p s=s:=by
 rcases V2 s with rfl|⟨r,x,rfl⟩
 .rfl
 .have:=h x (by simp);rw[ZD];exact wz r this
theorem Sx(r:aq)(x:UInt8)(a:r.length<=1048576):cC .i64 (len<|r++[x]) 1=(r.length:Int)/\idx (r++[x]) (r.length:Int)=some x:=by
 constructor
 .have:len (r++[x])=((r.length+1:Nat):Int):=by simp[len]
  rw[this,de (by omega) (by omega)];omega
 .rw[tK];simp
theorem L2(c:Int):∀(n:Nat) (s:aq),s.length<=n->s.length<=1048576->∀q:aq,Loop (eZ (q,c,())) ((s,()),())=some ((cm (λx=>aX (u8 x) c) s,()),()):=by
 intro n;induction n with
 | zero =>
   intro s h _ q;obtain rfl:s=[]:=wN.1 (by omega);rw[aN];rfl
 | succ n b =>
   intro s h a q;rcases V2 s with rfl|⟨r,x,rfl⟩
   .rw[aN];rfl
   .rw[ZD] at h a⊢;rw[fQ] at h a;simp only[dd,eB] at h a;obtain⟨d,e⟩:=Sx r x (by omega);rw[aN];have e0:eZ (q,c,()) ((r++[x],()),())=if aX (u8 x) c=true then some (.inl ((r,()),())) else some (.inr ((r++[x],()),())):=by
     unfold eZ;dsimp only;rw[aK<|by simp only[len,fQ,dd,eB];omega,ab,d,e,aa,aa];cases hx:aX (u8 x) c with
     | true =>
       rw[ab,aR (by omega) (by omega) (by simp only[len,fQ];omega),ab,cS,show sub (r++[x]) 0 (minus (r.length:Int) 0)=r from by rw[JZ];simp,aQ rfl]
     | false=>rw[ae,dG,aM (by simp)]
    rw[e0];cases hx:aX (u8 x) c with
    | true =>
      rw[aQ rfl,uV r (p:=λx=>aX (u8 x) c) hx];exact b r (by omega) (by omega) q
    | false =>
      rw[aM<|by simp,wz r (p:=λx=>aX (u8 x) c) hx];rfl
theorem vI(s:aq)(c:Int)(a:s.length<=1048576):eG (s,c,())=some (cm (λx=>aX (u8 x) c) s,()):=by
 unfold eG;rw[L2 c s.length s (cg _) a s,aa]
def ca(x:UInt8):Bool:=aX (u8 x) 0
theorem xy(x:UInt8):ca x=true↔x=0:=by
 unfold ca aX;rw[Io];constructor
 .intro h;exact U7 (a:=x) (b:=0) h
 .rintro rfl;rfl
theorem L3(s:aq)(a:s.length<=1048576):ea (s,[0],())=some (cm ca s,()):=by
 unfold ea;dsimp only;by_cases h:s=[]
 .subst h;rfl
 .rw[show bt s []=false from cJ h,aw,ab,show bt [0] []=false from rfl,ae,show aX (len ([0]:aq)) 1=true from rfl,ab,show idx ([0]:aq) 0=some 0 from rfl,aa,aa,show aY (u8 0) 128=true from rfl,ab,aa,
   vI s _ a,aa]
  rfl
def sL:List Bool:=((List.replicate 256 false).set 0 true).set 32 true
def vp(x:UInt8):Bool:=sL.getD x.toNat false
theorem PA:sL.length=256:=by simp only[sL,List.length_set,QB]
theorem aeO:∀n:Fin 256,sL.getD n.val false=(decide (n.val=0)||decide (n.val=32)):=by decide +kernel
theorem Sy(x:UInt8):vp x=true↔x=0\/x=32:=by
 unfold vp;rw[aeO ⟨x.toNat,x.toNat_lt⟩];simp only[wc,Io];constructor
 .rintro(h|h)
  .exact .inl (QR.1 h)
  .exact .inr (QR.1 h)
 .rintro(rfl|rfl)
  .exact .inl rfl
  .exact .inr rfl
theorem PB(x:UInt8):cr ((u8 x,()),sL,())=some ((vp x,()),sL,()):=by
 unfold cr;have hx:=x.toNat_lt;have e:u8 x=(x.toNat:Int):=rfl;dsimp only;rw[e,aW (by omega) (by omega),ab,eW sL false (i:=x.toNat) (by show _<sL.length;rw[PA];omega),aa];rfl
theorem Sz:dm ([0,32],())=some (sL,true,()):=by
 unfold dm;have key:Loop (bR ([0,32],())) ((false,0,()),List.replicate 256 false,())=some (0,(false,2,()),sL,()):=by
  rw[aN,show bR ([0,32],()) ((false,0,()),List.replicate 256 false,())=some (.inl ((false,1,()),(List.replicate 256 false).set 0 true,())) from rfl];show Loop (bR ([0,32],())) ((false,1,()),(List.replicate 256 false).set 0 true,())=_
  rw[aN,show bR ([0,32],()) ((false,1,()),(List.replicate 256 false).set 0 true,())=some (.inl ((false,2,()),sL,())) from rfl];show Loop (bR ([0,32],())) ((false,2,()),sL,())=_
  rw[aN];rfl
 exact(congrArg (af · _) key).trans rfl
theorem SA:∀(n:Nat) (s:aq),s.length<=n->s.length<=1048576->Loop bY ((s,()),sL,())=some ((cm vp s,()),sL,()):=by
 intro n;induction n with
 | zero =>
   intro s h _;obtain rfl:s=[]:=wN.1 (by omega);rw[aN];rfl
 | succ n b =>
   intro s h a;rcases V2 s with rfl|⟨r,x,rfl⟩
   .rw[aN];rfl
   .rw[ZD] at h a⊢;rw[fQ] at h a;simp only[dd,eB] at h a;obtain⟨c,d⟩:=Sx r x (by omega);rw[aN];have e0:bY ((r++[x],()),sL,())=if vp x=true then some (.inl ((r,()),sL,())) else some (.inr ((r++[x],()),sL,())):=by
     unfold bY;dsimp only;rw[aK<|by simp only[len,fQ,dd,eB];omega,ab,c,d,aa,PB,aa];dsimp only;cases hx:vp x with
     | true =>
       rw[aA,ae,aR (by omega) (by omega) (by simp only[len,fQ];omega),ab,cS,show sub (r++[x]) 0 (minus (r.length:Int) 0)=r from by rw[JZ];simp,aQ rfl]
     | false=>rw[aw,ab,dG,aM (by simp)]
    rw[e0];cases hx:vp x with
    | true =>
      rw[aQ rfl,uV r hx];exact b r (by omega) (by omega)
    | false =>
      rw[aM<|by simp,wz r hx];rfl
theorem DK(s:aq)(a:s.length<=1048576):ea (s,[0,32],())=some (cm vp s,()):=by
 unfold ea;dsimp only;by_cases h:s=[]
 .subst h;rfl
 .rw[show bt s []=false from cJ h,aw,ab,show bt [0,32] []=false from rfl,ae,show aX (len ([0,32]:aq)) 1=false from rfl,ae,aa,ae,Sz,aa];dsimp only;rw[ab];unfold dA;dsimp only;rw[SA s.length s (cg _) a];rfl
theorem L4(c:Int):∀(n:Nat) (s:aq),s.length<=n->∀q:aq,Loop (fk (q,c,())) ((s,()),())=some ((s.dropWhile<|λx=>aX (u8 x) c,()),()):=by
 intro n;induction n with
 | zero =>
   intro s h q;obtain rfl:s=[]:=wN.1 (by omega);rw[aN];rfl
 | succ n a =>
   intro s h q;cases s with
   | nil=>rw[aN];rfl
   | cons x r =>
     simp only[dd] at h;rw[aN];have e0:fk (q,c,()) ((x::r,()),())=if aX (u8 x) c=true then some (.inl ((r,()),())) else some (.inr ((x::r,()),())):=by
      unfold fk;dsimp only;rw[aK<|by simp only[len,dd];omega,ab,show idx (x::r) 0=some x from rfl,aa,aa];cases hx:aX (u8 x) c with
      | true =>
        rw[ab,aR (by decide) (by simp only[len,dd];omega) (re _),ab,cS,show sub (x::r) 1 (minus (len (x::r)) 1)=r from Sw (x::r) 1 (by simp),aQ rfl]
      | false=>rw[ae,dG,aM (by simp)]
     rw[e0,Im];cases hx:aX (u8 x) c with
     | true =>
       rw[aQ rfl,aQ rfl];exact a r (by omega) q
     | false =>
       rw[aM<|by simp,aM (by simp)];rfl
theorem Fa(s:aq)(c:Int):gB (s,c,())=some (s.dropWhile<|λx=>aX (u8 x) c,()):=by
 unfold gB;rw[L4 c s.length s (cg _) s,aa]
theorem Fb{p:UInt8->Bool}{l:aq}{x:UInt8}(h:x∈l.takeWhile p):p x=true:=ra.1 List.all_takeWhile x h
theorem SB(s:aq)(a:s.length<=1048576):hM (s,[0],())=some ((cm ca s).dropWhile ca,()):=by
 unfold hM;dsimp only;by_cases h:s=[]
 .subst h;rfl
 .rw[show bt s []=false from cJ h,aw,ab,show bt [0] []=false from rfl,ae,show aX (len ([0]:aq)) 1=true from rfl,ab,show idx ([0]:aq) 0=some 0 from rfl,aa,aa,show aY (u8 0) 128=true from rfl,ab,aa,
   vI s _ a,aa,aa,Fa,aa]
  rfl
theorem uW(s:aq):(cm ca s).dropWhile ca=[]↔∀x∈s,x=0:=by
 constructor
 .intro h;have e:∀x∈cm ca s,ca x=true:=by
   intro x a;have:=Ii (p:=ca) (l:=cm ca s);rw[h,xN] at this;rw[<-this] at a;exact Fb a
  have b:cm ca s=[]:=by
   rcases V2 (cm ca s) with b|⟨r,x,b⟩
   .exact b
   .exfalso;have a:=e x (by rw[b];simp);unfold cm at b;have c:(s.reverse.dropWhile ca)=x::r.reverse:=by
     have:=congrArg List.reverse b;simpa using this
    have:=List.head?_dropWhile_not ca s.reverse;rw[c] at this;simp[a] at this
  intro x a;have c:s.reverse.dropWhile ca=[]:=by
   have:=congrArg List.reverse b;simpa [cm] using this
  have:=Ii (p:=ca) (l:=s.reverse);rw[c,xN] at this;have d:x∈s.reverse:=QO.2 a;rw[<-this] at d;exact(xy x).1 (Fb d)
 .intro h;have:cm ca s=[]:=by
   have:=NI (p:=ca) s [] (λx a=>(xy x).2 (h x a));rw[sW] at this;exact this
  rw[this];rfl
theorem J0(b:aq)(c:b.length<=1048576):rT (b,())=some (decide (b.length=512/\∀x∈b,x=0),()):=by
 unfold rT;dsimp only;by_cases h:b.length=512
 .rw[aJ<|by simp only[len];omega,ab,SB b c,aa,aa]
  congr 2
  unfold bt;dsimp only;by_cases a:∀x∈b,x=0
  .rw[dI<|(uW b).2 a,dI ⟨h,a⟩]
  .rw[cJ<|λe=>a ((uW b).1 e),cJ λe=>a e.2]
 .rw[aE<|by simp only[len];omega,ae,aa,cJ λe=>h e.1]
end Go.Ge
