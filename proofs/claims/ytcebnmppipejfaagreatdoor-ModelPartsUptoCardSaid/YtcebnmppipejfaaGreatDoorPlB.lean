import Derived.Test.YtcebnmppipejfaaGreatDoorPlA
set_option linter.unusedSectionVars false
set_option linter.unusedVariables false
set_option linter.unusedSimpArgs false
set_option linter.defProp false
open Option renaming some->ab,none->ah
open Go.IntKind (i64)
namespace Go.Ge
variable [Lp]
set_option maxRecDepth 100000
def allowed:Tx:=[97,98,99,100,101,102,103,104,105,106,107,108,109,110,111,112,113,114,115,116,117,118,119,120,121,122,48,49,50,51,52,53,54,55,56,57,46,95,45]
def Pj(c:UInt8):Bool:=allowed.contains c
def iB(s:Tx):Bool:=decide (1<=s.length)&&decide (s.length<=32)&&s.all Pj
def Vy(a:Tx)(b:List Bool):List Bool:=(a.zipIdx).foldl (λt p=>lS t (u8 p.1) true) b
def Aq:List Bool:=List.replicate 256 false
def ak0(c:UInt8):u8 c<256:=by unfold u8;have:=c.toNat_lt;omega
def ak1(c:UInt8):0<=u8 c:=by unfold u8;omega
def QN(c:UInt8):within (u8 c) 256=true:=aM (ak1 c) (ak0 c)
def ae4{t:List Bool}(h:t.length=256)(c:UInt8):idx t (u8 c)=ab (t.getD c.toNat false):=nB t false (k:=c.toNat) rfl (by have:=c.toNat_lt;omega)
def Pk(a:Tx)(k:a.length<=4294967296)(l:∀c∈a,c<128):eJ (a,())=ab (Vy a Aq,true,()):=by
 unfold eJ;obtain⟨t,p,m,n⟩:=zB (f:=cD (a,())) a (λ(t:List Bool) i=>((false,i,()),t,())) (λt i x=>lS t (u8 x) true) (λt=>(0,(false,len a,()),t,())) (λt _=>t.length=256) k
  (λt i x j o b e=>by
   refine⟨?_,by simp[lS,e]⟩;unfold cD;have g:x<128:=l x (bz.2 ⟨i,j⟩);have d:u8 x<128:=by unfold u8;have:x.toNat<128:=g;omega
   rw[aq o,ae,au j,aa,ea d,af,QN,ae,ae4 e,aa,aa,aa,b])
  (λt e=>by unfold cD;dsimp only;rw[ay,af];rfl) Aq (by simp[Aq])
 have h:Loop (cD (a,())) ((false,(0:Int),()),Aq,())=_:=m;rw[show(List.replicate 256 false:List Bool)=Aq from rfl,h,aa];show ab (t,true,())=_
 rw[n];rfl
def ajt(c:UInt8):(Vy allowed Aq).getD c.toNat false=Pj c:=by
 have key:∀n:Fin 256,(Vy allowed Aq).getD n.val false=Pj (UInt8.ofNat n.val):=by decide +kernel
 have:=key ⟨c.toNat,c.toNat_lt⟩;simp_all
def aah:(Vy allowed Aq).length=256:=by decide +kernel
def M3{t:List Bool}(a:t.length=256)(c:UInt8):cI ((u8 c,()),t,())=ab ((t.getD c.toNat false,()),t,()):=by
 unfold cI;rw[QN,ae,ae4 a,aa]
def SI{t:List Bool}(a:t.length=256):∀(s:Tx),gU ((s,()),t,())=ab ((s.dropWhile<|λc=>t.getD c.toNat false,()),t,()):=by
 have key:∀s:Tx,Loop fP ((s,()),t,())=ab ((s.dropWhile<|λc=>t.getD c.toNat false,()),t,()):=by
  intro s;induction s with
  | nil =>
    rw[aT];rfl
  | cons c r d =>
    rw[aT];unfold fP;have hi:idx (c::r) (0:Int)=ab c:=rfl;rw[Gn,show decide (0<(c::r).length)=true from aY,ae,hi,aa,M3 a,aa,Hr];cases e:t.getD c.toNat false with
    | false=>rfl
    | true =>
      rw[aF,af,aU aK (by simp[len];omega) (sN _),ae];have b:sub (c::r) (1:Int) (minus (len (c::r)) 1)=r:=by
       have:=mG (c::r) 1 aY
       grind
      rw[b];show Loop fP ((r,()),t,())=_
      grind
 intro s;unfold gU;rw[key,aa]
def ae5{a:Type}{l:List a}(h:l.length<=4294967296):db .i64 (len l) 1=(l.length:Int)-1:=dL (by simp only[len];omega) (by simp only[len];omega)
def Pl{t:List Bool}(f:t.length=256):∀(n:Nat) (s:Tx),s.length=n->n<=4294967296->ed ((s,()),t,())=ab (((s.reverse.dropWhile λc=>t.getD c.toNat false).reverse,()),t,()):=by
 have key:∀(n:Nat) (s:Tx),s.length=n->n<=4294967296->Loop cJ ((s,()),t,())=ab (((s.reverse.dropWhile λc=>t.getD c.toNat false).reverse,()),t,()):=by
  intro n;induction n with
  | zero =>
    intro s a _;obtain rfl:=zY.1 a;rw[aT];rfl
  | succ n h =>
    intro s a d;obtain⟨r,c,rfl⟩:∃r c,s=r++[c]:=⟨s.dropLast,s.getLast (by intro e;rw[e] at a;simp at a),(aiC _).symm⟩;rw[aT];unfold cJ;have hlen:db .i64 (len<|r++[c]) 1=(r.length:Int):=by rw[ae5 ai];simp
    have hi:idx (r++[c]) (r.length:Int)=ab c:=by rw[vW];simp
    rw[Gn,show decide (0<(r++[c]).length)=true from aY,ae,hlen,hi,aa,M3 f,aa,List.reverse_append,List.reverse_singleton,ZD,Hr];cases i:t.getD c.toNat false with
    | false=>simp[nt,ao,dn]
    | true =>
      have g:inside 0 (r.length:Int) (len<|r++[c])=true:=aU aK ai (by simp only[len,hY,DE];omega);rw[aF,af,g,ae];have b:sub (r++[c]) (0:Int) (minus (r.length:Int) 0)=r:=by rw[ij];simp
      rw[b];show Loop cJ ((r,()),t,())=_
      grind
 intro n s a d;unfold ed;rw[key n s a d,aa]
def dropWhile_nil{b:Type}{p:b->Bool}{l:List b}:l.dropWhile p=[]↔l.all p=true:=by
 induction l with
 | nil=>simp
 | cons a r c =>
   rw[Hr,adU]
   grind
def ae6{p:UInt8->Bool}(s:Tx):((s.reverse.dropWhile p).reverse.dropWhile p=[])↔s.all p=true:=by
 constructor
 .intro h;rw[dropWhile_nil,List.all_reverse] at h;have a:s.reverse.all p=true:=by
   have e:s.reverse.takeWhile p++s.reverse.dropWhile p=s.reverse:=BP;rw[<-e,List.all_append,h];simp_all
  grind
 .intro h;have:s.reverse.dropWhile p=[]:=by rw[dropWhile_nil,List.all_reverse];exact h
  simp_all
def Gs(s:Tx):mK (s,())=ab (iB s,()):=by
 unfold mK iB;have f:cj 1 (len s)=decide (1<=s.length):=by unfold cj len;apply hH.2;omega
 have g:cj (len s) 32=decide (s.length<=32):=by unfold cj len;apply hH.2;omega
 rw[f,g];by_cases a:1<=s.length
 .rw[dE a,ae];by_cases d:s.length<=32
  .rw[dE d,ae,show([97,98,99,100,101,102,103,104,105,106,107,108,109,110,111,112,113,114,115,116,117,118,119,120,121,122,48,49,50,51,52,53,54,55,56,57,46,95,45]:Tx)=allowed from rfl];unfold jf;have h:s≠[]:=by intro e;rw[e] at a;simp at a
   rw[bw h,az,ae,bw (show allowed≠[] by decide),af,show aS (len allowed) 1=false from rfl,af,aa,af,Pk allowed aK aK,aa];rw[ae,Pl aah s.length s rfl ai,aa];rw[SI aah,aa,aa,aa];have i:(λc:UInt8=>(Vy allowed Aq).getD c.toNat false)=Pj:=funext ajt;rw[i];show ab (bG _ [],())=_
   have:=ae6 (p:=Pj) s;by_cases b:s.all Pj=true
   .rw[cN<|this.2 b,b];rfl
   .rw[bw λe=>b (this.1 e)]
    grind
  .rw[cL d,af,aa];simp
 .rw[cL a,af,af,aa];simp
def Vz(c:UInt8):Bool:=ao (ao (ao (ao (ao (nt<|aZ (u8 c) 97) (aZ 122<|u8 c) true) (ao (nt<|aZ (u8 c) 48) (aZ 57<|u8 c) true) false) (nt<|aS (u8 c) 46) false) (nt<|aS (u8 c) 95) false) (nt<|aS (u8 c) 45) false
def VA(c:UInt8):Vz c=!Pj c:=by
 have key:∀n:Fin 256,Vz (UInt8.ofNat n.val)=!Pj (UInt8.ofNat n.val):=by decide +kernel
 have:=key ⟨c.toNat,c.toNat_lt⟩;simp_all
def Bm(s:Tx)(c:s.length<=4294967296):oq (s,())=ab (iB s,()):=by
 unfold oq iB;rcases iQ (f:=nJ (s,())) s (λi=>((false,i,()),())) (λ_ x=>Vz x) (λi x=>(1,(false,(i:Int),()),())) (0,(false,len s,()),()) c (λi x a b d=>by
  unfold nJ;rw[aq b,ae,au a,aa,d];show ao (Vz x) _ _=_
  cases Vz x<;>rfl) (by unfold nJ;dsimp only;rw[ay,af];rfl) with ⟨i,x,a,e,l,h⟩|⟨g,h⟩
 .rw[h,aa];have:s.all Pj=false:=by
   rw[List.all_eq_false];refine⟨x,bz.2 ⟨i,a⟩,?_⟩;rw[VA] at e
   grind
  rw[this,adR];rfl
 .rw[h,aa];have:s.all Pj=true:=by
   rw[vR];intro x a;obtain⟨i,b⟩:=bz.1 a;have:=g i x b;rw[VA] at this
   grind
  rw[this,adV];have j:cj 1 (len s)=decide (1<=s.length):=by unfold cj len;apply hH.2;omega
  have k:cj (len s) 32=decide (s.length<=32):=by unfold cj len;apply hH.2;omega
  show ab (ao (cj 1<|len s) (cj (len s) 32) false,())=_
  rw[j,k];cases decide (1<=s.length)<;>rfl
end Go.Ge
namespace Go.Ge
variable [Lp]
open Go.Lib
def Yk(l:List Tx):(ri l).Pairwise (λa b=>a<=b):=by
 have:=List.pairwise_mergeSort (le:=λx y:Tx=>decide (x<=y)) (λa b c h k=>by simp only[pR] at h k⊢;exact List.le_trans h k) (λa b=>by simp only[BS,pR];exact List.le_total a b) l;unfold ri
 grind
def VB(l:List Tx):(ri l).Nodup↔l.Nodup:=(List.mergeSort_perm l _).nodup_iff
def VC{m:List Tx}{j:Nat}(a:j<m.length):keeps m.toArray j=decide (j=0\/m[j]≠m[j-1]'ai):=by
 unfold keeps
 grind
def SJ(m:List Tx)(q:m.Pairwise λa b=>a<=b):(compact m).length<m.length↔¬m.Nodup:=by
 unfold compact compactUpTo;rw[uI];have:((List.range m.length).filter<|keeps m.toArray).length<m.length↔∃x,x∈List.range m.length/\¬keeps m.toArray x=true:=by
  have:=List.length_filter_lt_length_iff_exists (p:=keeps m.toArray) (l:=List.range m.length)
  grind
 rw[this];constructor
 .rintro⟨j,c,g⟩ f;have e:=LD.1 c;rw[VC e] at g;simp only[pR,not_or,Decidable.not_not] at g;have r:=DC.1 f (j-1) j ai e ai
  grind
 .intro f;by_cases h:∃i j,∃(d:i<j) (c:j<m.length),m[i]'ai=m[j]
  .obtain⟨i,j,d,c,k⟩:=h;refine⟨j,LD.2 c,?_⟩;rw[VC c];simp only[pR,not_or,Decidable.not_not];refine⟨ai,?_⟩;have le:=λa b (n:a<b) (o:b<m.length)=>DC.1 q a b ai o n;have n:m[j-1]'ai<=m[j]:=le (j-1) j ai c;have o:m[j]<=m[j-1]'ai:=by
    grind
   grind
  .exfalso;apply f;refine DC.2 λi j s c d k=>h ⟨i,j,d,c,k⟩
def se(l:List Tx):Bool:=l.all iB&&decide l.Nodup&&decide (l.length<=4)
def jk(l:List Tx):Int:=if se l=true then 0 else 1
def rm(l:List Tx)(b:l.length<=4294967296):fH (l,())=ab (jk l,()):=by
 unfold fH;have d:nt (aZ 4<|len l)=decide (l.length<=4):=by
  unfold nt aZ len
  grind
 have e:aZ (len<|compact<|ri l) (len l)=!decide l.Nodup:=by
  have h:=SJ (ri l) (Yk l);rw[QJ,VB] at h;unfold aZ len
  grind
 have g:eo l ()=ab (ri l):=by
  unfold eo;rw[cO b];rfl
 rw[cO b,ae,g,aa];unfold eK;rcases iQ (f:=pd (l,())) l (λi=>(((0:Int),i,()),())) (λ_ x=>!iB x) (λi x=>(1,((i:Int),(i:Int),()),())) (0,((0:Int),len l,()),()) b (λi x a c j=>by
  unfold pd;rw[aq c,ae,au a,aa,Gs,aa,Vu,eA,j];by_cases h:iB x=true<;>simp[h]) (by unfold pd;dsimp only;rw[ay,af];rfl) with ⟨i,x,a,m,n,h⟩|⟨o,h⟩
 .rw[h,aa];have:l.all iB=false:=by
   grind
  have k:jk l=1:=by unfold jk se;rw[this];rfl
  rw[k];show ao (ao (nt<|ao (nt<|aZ 4<|len l) (aZ (len<|compact<|ri l)<|len l) true) (cj 0 (i:Int)) true) _ _=_
  cases nt (ao (nt<|aZ 4<|len l) (aZ (len<|compact<|ri l)<|len l) true)<;>rfl
 .rw[h,aa];have:l.all iB=true:=by
   rw[vR];intro x a;obtain⟨i,c⟩:=bz.1 a
   grind
  show ao (ao (nt<|ao (nt<|aZ 4<|len l) (aZ (len<|compact<|ri l)<|len l) true) (cj 0<|-1) true) _ _=_
  rw[d,e,show cj 0 (-1)=false from rfl];unfold jk se;rw[this];cases decide l.Nodup<;>cases decide (l.length<=4)<;>rfl
def Ar(l:List Tx)(E:l.length<=4294967296)(F:∀x∈l,x.length<=4294967296):nk (l,())=ab (se l,()):=by
 unfold nk;have inner:∀(r:Bool) (i:Nat) (x:Tx),l[i]?=ab x->(∃j y,j<i/\l[j]?=ab y/\y=x/\∃q,Loop (iT (l,()) ((r,(i:Int),()),())) ((r,(0:Int),()),())=ab (1,(false,q),()))\/((∀j y,j<i->l[j]?=ab y->y≠x)/\∃q,Loop (iT (l,()) ((r,(i:Int),()),())) ((r,(0:Int),()),())=ab (0,(r,q),())):=by
  intro r i x a;have hi:=aG a;have g:min i l.length=i:=ai;rcases rX (f:=iT (l,()) ((r,(i:Int),()),())) l i (λj=>((r,j,()),())) (λ_ y=>decide (y=x)) (λj y=>(1,(false,(j:Int),()),())) (λn=>(0,(r,(n:Int),()),())) ai (λj y m s b t=>by
   unfold iT;rw[aP<|show(j:Int)<(i:Int) by omega,ae,au m,aa,au a,aa,eA,t];by_cases h:y=x<;>simp[bG,h]) (by
   unfold iT;rw[g,aI (sN _),af]) with ⟨j,y,b,m,e,_,h⟩|⟨C,h⟩
  .grind
  .grind
 let bad:Nat->Tx->Bool:=λi x=>!iB x||(l.take i).contains x
 have c:∀i x,l[i]?=ab x->((l.take i).contains x=true↔∃j y,j<i/\l[j]?=ab y/\y=x):=by
  intro i x a;simp only[List.contains_eq_mem,pR];rw[bz];constructor
  .grind
  .rintro⟨j,y,b,m,rfl⟩;exact⟨j,by rw[jU,aW b];exact m⟩
 rcases iQ (f:=pe (l,())) l (λi=>((false,i,()),())) bad (λi x=>(1,(false,(i:Int),()),())) (0,(false,len l,()),()) E (λi x a hi t=>by
  unfold pe;rw[aq hi,ae,au a,aa,Bm x (F x<|bz.2 ⟨i,a⟩),aa];cases D:iB x with
  | false=>simp[bad,D,nt,ao]
  | true =>
    rcases inner false i x a with ⟨j,y,o,p,u,q,h⟩|⟨C,q,h⟩
    .have d:=(c i x a).2 ⟨j,y,o,p,u⟩;rw[h,aa];show ab _=_
     grind
    .have d:(l.take i).contains x=false:=by
      grind
     rw[h,aa,t];simp only[bad,D,d];rfl) (by unfold pe;dsimp only;rw[ay,af];rfl) with ⟨i,x,a,e,s,h⟩|⟨C,h⟩
 .rw[h,aa];have:se l=false:=by
   unfold se;simp only[bad,BS,zh] at e;rcases e with e|e
   .grind
   .have:¬l.Nodup:=λv=>by
     obtain⟨j,y,o,p,u⟩:=(c i x a).1 e;obtain⟨w,k⟩:=ib.1 a;obtain⟨z,A⟩:=ib.1 p;exact DC.1 v j i z w o (by rw[A,k,u])
    grind
  rw[this];rfl
 .rw[h,aa];have o:l.all iB=true:=by
   rw[vR];intro x B;obtain⟨i,hi⟩:=bz.1 B
   grind
  have p:l.Nodup:=by
   refine DC.2 λj i s hi b G=>?_;have H:=(c i l[i]<|ia hi).2 ⟨j,l[j],b,ia s,G⟩
   grind
  show ab (cj (len l) 4,())=_
  unfold se;have:cj (len l) 4=decide (l.length<=4):=by unfold cj len;apply hH.2;omega
  grind
end Go.Ge
namespace Go.Ge
variable [Lp]
def ae7(a:List Tx)(b:Int)(i:Nat)(x:Nm):Bool:=decide ((i:Int)≠b)&&x.2.1.any (λs=>decide (s∈a))
def SK(l:List Nm)(a:List Tx)(b:Int):Bool:=l.zipIdx.any λp=>ae7 a b p.2 p.1
def mL(l:List Nm)(id:Tx)(a:List Tx):Int:=if jk a≠0 then jk a else if SK l a (MZ l id)=true then 8 else 0
def QO{l:List Nm}{a:List Tx}{b:Int}:SK l a b=true↔∃i x,l[i]?=ab x/\ae7 a b i x=true:=by
 unfold SK;rw[Qn];constructor
 .rintro⟨p,c,h⟩;obtain⟨x,i⟩:=p;exact⟨i,x,aiz.1 c,h⟩
 .rintro⟨i,x,d,h⟩;exact⟨(x,i),aiz.2 d,h⟩
def Yl{l:List Nm}{a:List Tx}{b:Int}(h:∀i x,l[i]?=ab x->ae7 a b i x=false):SK l a b=false:=by
 rw[<-Bool.not_eq_true,QO];rintro⟨i,x,c,k⟩;rw[h i x c] at k;cases k
def ot(l:List Nm)(id:Tx)(a:List Tx)(j:Small l)(r:a.length<=4294967296):gz (l,id,a,())=ab (mL l id a,()):=by
 unfold gz mL;dsimp only;rw[rm a r,aa];dsimp only;by_cases m:jk a=0
 .rw[m,aE rfl,aF,af,M0 l id j.1,aa,aQ aY];generalize MZ l id=own;have inner:∀(y:Nm),y.2.1.length<=4294967296->(y.2.1.any (λs=>decide (s∈a))=true/\∃(k:Nat) (q:Int×al),Loop (jO y) (((0:Int),(0:Int),()),a,())=ab (1,((k:Int),q),a,())) \/
    (y.2.1.any (λs=>decide (s∈a))=false/\∃q,Loop (jO y) (((0:Int),(0:Int),()),a,())=ab (0,q,a,())):=by
   intro y t;rcases iQ (f:=jO y) y.2.1 (λi=>(((0:Int),i,()),a,())) (λ_ s=>decide (s∈a)) (λi s=>(1,((i:Int),(i:Int),()),a,())) (0,((0:Int),len y.2.1,()),a,()) t (λi s b c e=>by
    unfold jO;dsimp only;rw[aq c,ae,au b,aa,xe a s r,aa,eA,e];by_cases h:s∈a<;>simp[h]) (by unfold jO;dsimp only;rw[ay,af];rfl) with ⟨i,s,b,n,u,h⟩|⟨o,h⟩
   .exact .inl ⟨Qn.2 ⟨s,bz.2 ⟨i,b⟩,n⟩,i,_,h⟩
   .refine .inr ⟨?_,_,h⟩;rw[List.any_eq_false];intro s b;obtain⟨i,c⟩:=bz.1 b;rw[o i s c];simp
  rcases iQ (f:=qx (l,id,a,()) (own,())) l (λi=>(((0:Int),i,()),a,())) (ae7 a own) (λi x=>(1,((8:Int),(i:Int),()),a,())) (0,((0:Int),len l,()),a,()) j.1 (λi x g c e=>by
   unfold qx;dsimp only;rw[aq c,ae,au g,aa];unfold ae7;by_cases d:(i:Int)=own
   .rw[aE d,aF,af,e];simp[d]
   .rw[ax d,az,ae];rcases inner x (j.2 x<|bz.2 ⟨i,g⟩) with ⟨p,k,q,h⟩|⟨p,q,h⟩
    .rw[h,aa,p];dsimp only;rw[eZ,af,bO ai,ae];simp[d]
    .rw[h,aa,p];dsimp only;rw[bW,ae,show cj 0 (-1)=false from rfl,af,e];simp[d]) (by unfold qx;dsimp only;rw[ay,af];rfl) with ⟨i,x,g,n,u,h⟩|⟨o,h⟩
  .rw[h,aa,aW (QO.2 ⟨i,x,g,n⟩)];rfl
  .rw[h,aa,Yl o];rfl
 .rw[ax m,az,ae,aW m]
def xf(l:List Tx)(h:l.length<=4294967296):bc (l,())=ab (l,()):=by
 unfold bc;dsimp only;rw[cO h];rfl
def Kl(x y:List Tx)(l:x.length<=4294967296):e8 (x,y,())=ab (decide<|x=y,()):=by
 unfold e8;dsimp only;rw[Vt];by_cases g:x.length=y.length
 .rw[dE g,aF,af];rcases iQ (f:=j8 (x,y,())) x (λi=>((false,i,()),())) (λi a=>decide (y[i]?≠ab a)) (λi a=>(1,(false,(i:Int),()),())) (0,(false,len x,()),()) l (λi a j m c=>by
   unfold j8;dsimp only;have b:i<y.length:=ai;rw[aq m,ae,aq b,ae,au j,aa,au (ia b),aa,Vu,eA,c,ia b];by_cases h:a=y[i]
   .simp[bG,h]
   .have n:¬y[i]=a:=λe=>h e.symm;simp[bG,h,n]) (by unfold j8;dsimp only;rw[ay,af,af];rfl) with ⟨i,a,j,k,p,h⟩|⟨o,h⟩
  .rw[h,aa];have:x≠y:=λe=>by subst e;rw[j] at k;simp at k
   rw[cL this];rfl
  .rw[h,aa];have:x=y:=by
    apply Ls;intro i;cases d:x[i]? with
    | none =>
      have:x.length<=i:=aiE.1 d;exact(aiE.2 ai).symm
    | some a =>
      have:=o i a d;simp at this;exact this.symm
   rw[dE this];rfl
 .rw[cL g,az,ae];have:x≠y:=λe=>g (by rw[e]);rw[cL this]
def sf{a:Type}{n:Nat}{l:List a}{c:Int}(b:c=n):ao (aZ ((min n l.length:Nat):Int)<|len l) (aZ ((min n l.length:Nat):Int) c) false=false:=by
 subst b;by_cases h:l.length<=n
 .rw[Nat.min_eq_right h,ay,af]
 .rw[yF ai,aI (sN _)];cases aZ (n:Int) (len l)<;>rfl
def gH{a:Type}{l:List a}{n:Nat}{c:Int}(b:c=n):cj (len l) c=decide (l.length<=n):=by subst b;exact Ap n l
def gI{a:Type}{l:List a}{n:Nat}{c:Int}(b:c=n):aZ c (len l)=decide (n<l.length):=by subst b;exact Gm n l
def nZ(l:List Tx):Prop:=l.length<=8/\∀x∈l,x.length<=100
def SL(l:List Tx):∃b,pc (l,())=ab (b,())/\(b=true->nZ l):=by
 unfold pc;rcases rX (f:=kN (l,())) l 8 (λi=>((false,i,()),())) (λ_ x=>decide (100<x.length)) (λi x=>(1,(false,(i:Int),()),())) (λn=>(0,(false,(n:Int),()),())) ai (λi x d a g j=>by
  unfold kN;dsimp only;rw[aq a,ae,aP (show(i:Int)<8 by omega),ae,au d,aa,gI (n:=100) (c:=100) rfl,eA,j];by_cases h:100<x.length<;>simp[h]) (by unfold kN;dsimp only;rw[sf (c:=8) rfl,af]) with ⟨i,x,a,d,o,_,h⟩|⟨k,h⟩
 .rw[h];exact⟨false,rfl,λh=>by cases h⟩
 .rw[h];refine⟨_,rfl,λe=>?_⟩;dsimp only at e;rw[gH (n:=8) (c:=8) rfl] at e;have m:=iy e;refine⟨m,λx d=>?_⟩;obtain⟨i,a⟩:=bz.1 d;have:=k i x (by have:=aG a;omega) a;simpa using this
def ak2(l:List Nm):Prop:=l.length<=40/\∀x∈l,x.1.length<=100/\nZ x.2.1
def nZ.small{l:List Tx}(h:nZ l):l.length<=4294967296:=by have:=h.1;omega
def nZ.each{l:List Tx}(h:nZ l):∀x∈l,x.length<=4294967296:=λx a=>by have:=h.2 x a;omega
def ak2.small{l:List Nm}(h:ak2 l):Small l:=⟨by have:=h.1;omega,λx a=>by have:=(h.2 x a).2.1;omega⟩
def id1:Tx:=[48,48,48,48,48,49]
abbrev Item:=Tx×Tx×Tx×al
abbrev aD:=Tx×Tx×List Tx×Tx×Int×Int×Bool×al
abbrev bI:=Tx×List Tx×Tx×Tx×List Item×al
abbrev ep:=Tx×List Tx×Tx×Tx×Tx×List Item×al
abbrev yd:=Int×List aD×List bI×List ep×al
def Dk(l:List Tx):∃b,lV (l,())=ab (b,())/\(b=true->nZ l):=by
 unfold lV;rcases rX (f:=sd (l,())) l 8 (λi=>((false,i,()),())) (λ_ x=>decide (100<x.length)) (λi x=>(1,(false,(i:Int),()),())) (λn=>(0,(false,(n:Int),()),())) ai (λi x a d g j=>by
  unfold sd;rw[aq d,ae,aP (show(i:Int)<8 by omega),ae,au a,aa,gI (n:=100) (c:=100) rfl,eA,j];by_cases h:100<x.length<;>simp[h]) (by unfold sd;dsimp only;rw[sf (c:=8) rfl,af]) with ⟨i,x,d,a,m,_,h⟩|⟨o,h⟩
 .rw[h];exact⟨false,rfl,λh=>by cases h⟩
 .rw[h];refine⟨_,rfl,λe=>?_⟩;rw[gH (n:=8) (c:=8) rfl] at e;have k:=iy e;refine⟨k,λx a=>?_⟩;obtain⟨i,d⟩:=bz.1 a
  grind
def QP(l:List Item):∃b,eL (l,())=ab (b,()):=by
 unfold eL;rcases rX (f:=eX (l,())) l 8 (λi=>((false,i,()),())) (λ_ x=>decide (100<x.1.length)||decide (200<x.2.2.1.length)) (λi x=>(1,(false,(i:Int),()),())) (λn=>(0,(false,(n:Int),()),())) ai (λi x a d e g=>by
  unfold eX;rw[aq d,ae,aP (show(i:Int)<8 by omega),ae,au a,aa,gI (n:=100) (c:=100) rfl,aa,gI (n:=200) (c:=200) rfl,g];by_cases h:100<x.1.length
  .simp[h,ao,nt,ag]
  .by_cases j:200<x.2.2.1.length<;>simp[h,j,ao,nt,ag]) (by unfold eX;dsimp only;rw[sf (c:=8) rfl,af]) with ⟨i,x,d,a,k,_,h⟩|⟨m,h⟩
 .rw[h];exact⟨false,rfl⟩
 .rw[h];exact⟨_,rfl⟩
structure FewB (b:yd):Prop where
 ll:b.2.1.length<=40
 ln:∀x∈b.2.1,nZ x.2.2.1
 il:b.2.2.1.length<=40
 pV:∀x∈b.2.2.1,nZ x.2.1
 bl:b.2.2.2.1.length<=40
 bn:∀x∈b.2.2.2.1,nZ x.2.1
def ae8(b:yd):∃c,rl (b,())=ab (c,())/\(c=true->FewB b):=by
 obtain⟨a,g⟩:∃a:List Tx->Bool,∀l,lV (l,())=ab (a l,())/\(a l=true->nZ l):=⟨λl=>Classical.choose (Dk l),λl=>T5 (Dk l)⟩;obtain⟨e,j⟩:∃a:List Item->Bool,∀l,eL (l,())=ab (a l,()):=⟨λl=>Classical.choose (QP l),λl=>T5 (QP l)⟩;obtain⟨n,p,r,s,u⟩:=b;unfold rl;rcases rX (f:=jh ((n,p,r,s,u),())) p 40 (λi=>((false,i,()),())) (λ_ x=>!a x.2.2.1) (λi x=>(1,(false,(i:Int),()),())) (λn=>(0,(false,(n:Int),()),())) ai (λi x d k t v=>by
  unfold jh;rw[aq k,ae,aP (show(i:Int)<40 by omega),ae,au d,aa,(g _).1,aa,Vu,v];cases a x.2.2.1<;>rfl) (by unfold jh;dsimp only;rw[sf (c:=40) rfl,af]) with ⟨i,x,k,d,y,_,h⟩|⟨z,h⟩
 .rw[h];exact⟨false,rfl,λh=>by cases h⟩
 rw[h,aa];rcases rX (f:=ji ((n,p,r,s,u),())) r 40 (λi=>((false,i,()),())) (λ_ x=>!a x.2.1||decide (200<x.2.2.2.1.length)||!e x.2.2.2.2.1) (λi x=>(1,(false,(i:Int),()),())) (λn=>(0,(false,(n:Int),()),())) ai (λi x d k t v=>by
  unfold ji;rw[aq k,ae,aP (show(i:Int)<40 by omega),ae,au d,aa,(g _).1,aa,aa,aa,gI (n:=200) (c:=200) rfl,j,aa,v];cases a x.2.1 with
  | false=>rfl
  | true =>
    by_cases m:200<x.2.2.2.1.length
    .simp[m,ao,nt,ag]
    .cases A:e x.2.2.2.2.1<;>simp[m,ao,nt,ag]) (by unfold ji;dsimp only;rw[sf (c:=40) rfl,af]) with ⟨i,x,k,d,y,_,h⟩|⟨B,h⟩
 .rw[h];exact⟨false,rfl,λh=>by cases h⟩
 rw[h,aa];rcases rX (f:=jj ((n,p,r,s,u),())) s 40 (λi=>((false,i,()),())) (λ_ x=>!a x.2.1||decide (200<x.2.2.2.2.1.length)||!e x.2.2.2.2.2.1) (λi x=>(1,(false,(i:Int),()),())) (λn=>(0,(false,(n:Int),()),())) ai (λi x d k t v=>by
  unfold jj;rw[aq k,ae,aP (show(i:Int)<40 by omega),ae,au d,aa,(g _).1,aa,aa,aa,gI (n:=200) (c:=200) rfl,j,aa,v];cases a x.2.1 with
  | false=>rfl
  | true =>
    by_cases m:200<x.2.2.2.2.1.length
    .simp[m,ao,nt,ag]
    .cases A:e x.2.2.2.2.2.1<;>simp[m,ao,nt,ag]) (by unfold jj;dsimp only;rw[sf (c:=40) rfl,af]) with ⟨i,x,k,d,y,_,h⟩|⟨C,h⟩
 .rw[h];exact⟨false,rfl,λh=>by cases h⟩
 rw[h,aa];refine⟨_,rfl,λo=>?_⟩;rw[gH (n:=40) (c:=40) rfl,gH (n:=40) (c:=40) rfl,gH (n:=40) (c:=40) rfl] at o;have w:p.length<=40:=by
  by_cases q:p.length<=40
  .exact q
  .rw[cL q] at o;cases o
 have m:r.length<=40:=by
  by_cases q:r.length<=40
  .exact q
  .rw[dE w,cL q] at o;cases o
 have D:s.length<=40:=by
  by_cases q:s.length<=40
  .exact q
  .rw[dE w,dE m,cL q] at o;cases o
 refine⟨w,λx d=>?_,m,λx d=>?_,D,λx d=>?_⟩
 .dsimp only at d;obtain⟨i,k⟩:=bz.1 d
  grind
 .dsimp only at d;obtain⟨i,k⟩:=bz.1 d
  grind
 .dsimp only at d;obtain⟨i,k⟩:=bz.1 d
  grind
def ofL(x:aD):List Nm:=if x.2.2.2.2.2.2.1=true then [(x.1,x.2.2.1,())] else []
def ofI(x:bI):List Nm:=[(x.1,x.2.1,())]
def ofB(x:ep):List Nm:=[(x.1,x.2.1,())]
def ofV(a:Int)(b:yd):List Nm:=if a=1 then b.2.2.2.1.flatMap ofB else if a=2 then b.2.2.1.flatMap ofI else if a=3 then b.2.1.flatMap ofL else []
def lW{b c:Type}{g:b->List c}(d:∀x,(g x).length<=1)(l:List b):(l.flatMap g).length<=l.length:=by
 induction l with
 | nil=>simp
 | cons a r e=>rw[ZK,hY,eU];have:=d a;omega
def pf{a b:Type}{g:a->List b}(c:∀x,(g x).length<=1)(l:List a)(i:Nat):((l.take i).flatMap g).length<=l.length:=by
 have:=lW c (l.take i)
 grind
def SM(x:aD):(ofL x).length<=1:=by unfold ofL;split<;>simp
def K2(x:bI):(ofI x).length<=1:=by simp[ofI]
def SN(x:ep):(ofB x).length<=1:=by simp[ofB]
def HV{a:Type}{s:List a}{x:a}(h:s.length<=1000):fits (plus (len s)<|len [x])=true:=bo nU
def vZ(a:Int)(b:yd)(c:FewB b):qR (a,b,())=ab (ofV a b,()):=by
 unfold qR ofV;by_cases h:a=1
 .rw[aW h,aE h,ae];have:=rY (f:=ue (a,b,())) b.2.2.2.1 (λs i=>((i,()),(),s,())) ofB ((len b.2.2.2.1,()),(),b.2.2.2.1.flatMap ofB,()) (by have:=c.bl;omega) (λi x d e g=>by
   unfold ue;dsimp only;have l:=pf SN b.2.2.2.1 i;rw[aq e,ae,au d,aa,xf _ (c.bn x<|bz.2 ⟨i,d⟩).small,aa,HV (by have:=c.bl;omega),ae,g];rfl) (by unfold ue;dsimp only;rw[ay,af];rfl)
  rw[this,aa,aa]
 .rw[aQ h,ax h,af];by_cases j:a=2
  .rw[aW j,aE j,ae];have:=rY (f:=uf (a,b,())) b.2.2.1 (λs i=>((i,()),(),s,())) ofI ((len b.2.2.1,()),(),b.2.2.1.flatMap ofI,()) (by have:=c.il;omega) (λi x d e g=>by
    unfold uf;dsimp only;have l:=pf K2 b.2.2.1 i;rw[aq e,ae,au d,aa,xf _ (c.pV x<|bz.2 ⟨i,d⟩).small,aa,HV (by have:=c.il;omega),ae,g];rfl) (by unfold uf;dsimp only;rw[ay,af];rfl)
   rw[this,aa,aa,aa]
  .rw[aQ j,ax j,af];by_cases k:a=3
   .rw[aW k,aE k,ae];have:=rY (f:=ug (a,b,())) b.2.1 (λs i=>((i,()),(),s,())) ofL ((len b.2.1,()),(),b.2.1.flatMap ofL,()) (by have:=c.ll;omega) (λi x d e g=>by
     unfold ug;dsimp only;have l:=pf SM b.2.1 i;rw[aq e,ae,au d,aa,xf _ (c.ln x<|bz.2 ⟨i,d⟩).small,aa,HV (by have:=c.ll;omega),ae,g];unfold ofL;cases x.2.2.2.2.2.2.1 with
     | false=>simp[ao,ag,dn]
     | true=>rfl) (by unfold ug;dsimp only;rw[ay,af];rfl)
    rw[this,aa,aa,aa,aa]
   .rw[aQ k,ax k,af];rfl
def Dm(d:Int)(b:yd)(c:FewB b):Small (ofV d b):=by
 unfold ofV;split
 .refine⟨by have:=lW SN b.2.2.2.1;have:=c.bl;omega,λx a=>?_⟩;rw[Lv] at a;obtain⟨y,e,a⟩:=a;simp only[ofB,yE] at a;subst a;exact(c.bn y e).small
 .split
  .refine⟨by have:=lW K2 b.2.2.1;have:=c.il;omega,λx a=>?_⟩;rw[Lv] at a;obtain⟨y,e,a⟩:=a;simp only[ofI,yE] at a;subst a;exact(c.pV y e).small
  .split
   .refine⟨by have:=lW SM b.2.1;have:=c.ll;omega,λx a=>?_⟩;rw[Lv] at a;obtain⟨y,e,a⟩:=a;unfold ofL at a;split at a
    .simp only[yE] at a;subst a;exact(c.ln y e).small
    .cases a
   .exact⟨aY,λx a=>by cases a⟩
def Dn(n x:Int):Int:=zX .u32 (mE .u32 x n) (nW .u32 x<|32-n)
def p7{n m:Int}(h:jV .u64 (kF .u64<|db .i64 0 n) 31=m)(a:aZ m 0=false)(b:db .u64 32 m=n)(c:aZ n 0=false)(d:32-n=m)(x:Int):cr (x,n,())=ab (Dn n x,()):=by
 unfold cr ku Dn;rw[h,a,af,b,c,af,aa,d,Yg]
def uh{n:Int}(a:aZ n 0=false)(b:db .i64 32 n=32-n)(c:aZ (32-n) 0=false)(x:Int):ca (x,n,())=ab (Dn n x,()):=by
 unfold ca Dn;rw[a,af,b,c,af]
def r7(x:Int):cr (x,7,())=ab (Dn 7 x,()):=p7 (m:=25) aK aK aK aK aK x
def r18(x:Int):cr (x,18,())=ab (Dn 18 x,()):=p7 (m:=14) aK aK aK aK aK x
def r17(x:Int):cr (x,17,())=ab (Dn 17 x,()):=p7 (m:=15) aK aK aK aK aK x
def r19(x:Int):cr (x,19,())=ab (Dn 19 x,()):=p7 (m:=13) aK aK aK aK aK x
def r6(x:Int):cr (x,6,())=ab (Dn 6 x,()):=p7 (m:=26) aK aK aK aK aK x
def r11(x:Int):cr (x,11,())=ab (Dn 11 x,()):=p7 (m:=21) aK aK aK aK aK x
def r25(x:Int):cr (x,25,())=ab (Dn 25 x,()):=p7 (m:=7) aK aK aK aK aK x
def r2(x:Int):cr (x,2,())=ab (Dn 2 x,()):=p7 (m:=30) aK aK aK aK aK x
def r13(x:Int):cr (x,13,())=ab (Dn 13 x,()):=p7 (m:=19) aK aK aK aK aK x
def r22(x:Int):cr (x,22,())=ab (Dn 22 x,()):=p7 (m:=10) aK aK aK aK aK x
def t7(x:Int):ca (x,7,())=ab (Dn 7 x,()):=uh aK aK aK x
def t18(x:Int):ca (x,18,())=ab (Dn 18 x,()):=uh aK aK aK x
def t17(x:Int):ca (x,17,())=ab (Dn 17 x,()):=uh aK aK aK x
def t19(x:Int):ca (x,19,())=ab (Dn 19 x,()):=uh aK aK aK x
def t6(x:Int):ca (x,6,())=ab (Dn 6 x,()):=uh aK aK aK x
def t11(x:Int):ca (x,11,())=ab (Dn 11 x,()):=uh aK aK aK x
def t25(x:Int):ca (x,25,())=ab (Dn 25 x,()):=uh aK aK aK x
def t2(x:Int):ca (x,2,())=ab (Dn 2 x,()):=uh aK aK aK x
def t13(x:Int):ca (x,13,())=ab (Dn 13 x,()):=uh aK aK aK x
def t22(x:Int):ca (x,22,())=ab (Dn 22 x,()):=uh aK aK aK x
def word(b:List Int)(t:Nat):Int :=
 zX .u32 (zX .u32 (zX .u32 (nW .u32 (kF .u32<|b.getD (4*t) 0) 24)<|nW .u32 (kF .u32<|b.getD (4*t+1) 0) 16)<|nW .u32 (kF .u32<|b.getD (4*t+2) 0) 8) (kF .u32<|b.getD (4*t+3) 0)
def gJ(n:Nat):List Int:=List.replicate n 0
def Bn(b:List Int):Nat->List Int
 | 0=>gJ 64
 | t+1=>(Bn b t).set t (word b t)
def uY(b:List Int)(t:Nat):(Bn b t).length=64:=by
 induction t with
 | zero=>rfl
 | succ t a=>simp[Bn,a]
def abM(b:List Int):∀(t j:Nat),t<=j->j<64->(Bn b t).getD j 0=0:=by
 intro t;induction t with
 | zero =>
   intro j _ d;show(List.replicate 64 _).getD j 0=0
   grind
 | succ t a =>
   intro j e c;have:=a j ai c;simp only[Bn,Xd,ZI] at this⊢
   grind
def ak3(p:List Int)(t:Nat):Int :=
 aH .u32 (aH .u32 (aH .u32 (gQ .u32 (gQ .u32 (Dn 17<|p.getD (t-2) 0)<|Dn 19<|p.getD (t-2) 0)<|mE .u32 (p.getD (t-2) 0) 10)<|p.getD (t-7) 0)
  (gQ .u32 (gQ .u32 (Dn 7<|p.getD (t-15) 0)<|Dn 18<|p.getD (t-15) 0)<|mE .u32 (p.getD (t-15) 0) 3)) (p.getD (t-16) 0)
def Km(l:List Int):Nat->List Int
 | 0=>l
 | k+1=>(Km l k).set (16+k) (ak3 (Km l k)<|16+k)
def EZ(l:List Int)(k:Nat):(Km l k).length=l.length:=by
 induction k with
 | zero=>rfl
 | succ k a=>simp[Km,a]
def As(b:List Int):List Int:=Km (Bn b 16) 48
def Gt(b:List Int):(As b).length=64:=by unfold As;rw[EZ,uY]
def four{t:Nat}(a:t<64):jH .i64 4 (t:Int)=((4*t:Nat):Int):=by rw[Ch ai ai];omega
def VD(b:List Int)(n:b.length=64)(t:Nat)(h:t<16)(w:List Int)(e:w.length=64)(o:w.getD t 0=0)(u v:al)(y:List Int×al) :
  Loop (jZ (b,u) (((t:Int),v),y)) ((0,()),w,())=ab (((4:Int),()),w.set t<|word b t,()):=by
 let a:=λj=>match j with
  | 0=>0
  | 1=>zX .u32 (nW .u32 0 8) (kF .u32<|b.getD (4*t) 0)
  | 2=>zX .u32 (nW .u32 (zX .u32 (nW .u32 0 8)<|kF .u32<|b.getD (4*t) 0) 8) (kF .u32<|b.getD (4*t+1) 0)
  | 3=>zX .u32 (nW .u32 (zX .u32 (nW .u32 (zX .u32 (nW .u32 0 8)<|kF .u32<|b.getD (4*t) 0) 8)<|kF .u32<|b.getD (4*t+1) 0) 8) (kF .u32<|b.getD (4*t+2) 0)
  | _=>word b t
 have c:∀j,j<4->a (j+1)=zX .u32 (nW .u32 (a j) 8) (kF .u32<|b.getD (4*t+j) 0):=by
  intro j g;rcases(by omega:j=0\/j=1\/j=2\/j=3) with rfl|rfl|rfl|rfl
  .rfl
  .rfl
  .rfl
  .exact(aho _ _ _ _).symm
 have i:w=w.set t 0:=by
  apply Ls
  grind
 have:=dh (f:=jZ (b,u) (((t:Int),v),y)) (r:=(((4:Int),()),_)) 4 (λj=>(((j:Int),()),w.set t<|a j,())) (λj g=>by
  unfold jZ;dsimp only;rw[four ai,ff ai ai];have d:minus (((4*t:Nat):Int)+4) ((4*t:Nat):Int)=4:=by unfold minus;omega
  rw[d,aP ai,ae,aM ai ai,ae,aM ai ai];have l:(w.set t<|a j).length=64:=by simp[e]
  have m:(w.set t<|a j).getD t 0=a j:=by simp[Xd,e,h,(by omega:t<64)]
  rw[nB b 0 (k:=4*t+j) (by unfold plus;omega) ai,aa,ae,fL _ 0 (by rw[l];omega),m,aa,aI aK,af,ae,aa,aa,aa,dA,aL ai,ig,List.set_set,c j g])
  (by
   unfold jZ;dsimp only;rw[four ai,ff ai ai];have d:minus (((4*t:Nat):Int)+4) ((4*t:Nat):Int)=4:=by unfold minus;omega
   rw[d,aI ai,af,lh];rfl)
 grind
def aai:([0,0,0,0,0,0,0,0,0,0,0,0,0,0,0,0,0,0,0,0,0,0,0,0,0,0,0,0,0,0,0,0,0,0,0,0,0,0,0,0,0,0,0,0,0,0,0,0,0,0,0,0,0,0,0,0,0,0,0,0,0,0,0,0]:List Int)=gJ 64:=rfl
def VE(b:List Int)(a:b.length=64)(u:al):Loop (nE (b,u)) ((0,()),gJ 64,())=ab (((16:Int),()),Bn b 16,()):=by
 refine dh 16 (λt=>(((t:Int),()),Bn b t,())) (λt c=>?_) ?_
 .unfold nE;dsimp only;rw[aP ai,ae,four ai,ff ai ai,aU ai ai ai,ae,VD b a t c _ (uY b t) (abM b t t (cq _) ai),aa,dA,aL ai];rfl
 .unfold nE;dsimp only;rfl
def abN(l:List Int)(a:l.length=64):Loop nF ((16,()),l,())=ab (((64:Int),()),Km l 48,()):=by
 refine dh 48 (λk=>((((16+k:Nat):Int),()),Km l k,())) (λk b=>?_) ?_
 .have hlen:(Km l k).length=64:=by rw[EZ,a]
  unfold nF;dsimp only;rw[aP ai,ae,dL ai ai,dL ai ai,dL ai ai,dL ai ai,
   aM ai ai,ae,nB _ 0 (k:=16+k-2) ai ai,aa,aM ai ai,ae,nB _ 0 (k:=16+k-15) ai ai,aa,
   r7,aa,r18,aa,aI aK,af,r17,aa,r19,aa,aI aK,af,aM ai ai,ae,nB _ 0 (k:=16+k-7) ai ai,aa,
   aM ai ai,ae,nB _ 0 (k:=16+k-16) ai ai,aa,aM ai ai,ae,fL _ 0 ai,aa,aa,aa,dA,aL ai,ig]
  rfl
 .unfold nF;dsimp only;rfl
def SO(b:List Int)(a:b.length=64)(u:al):rZ (b,u)=ab (As b,()):=by
 unfold rZ;rw[aai,VE b a,aa];rw[abN _<|uY b 16,aa];dsimp only[As]
def ae9(s:aw){i:Nat}(h:i<s.length)(x:UInt8)(a:s[i]?=ab x):u8 x=(aC s).getD i 0:=by
 simp[aC,Xd,a,u8]
def abO(h:List Int)(s:aw)(o:s.length=64)(u:al):Loop (lq (h,s,u)) ((0,()),gJ 64,())=ab (((16:Int),()),Bn (aC s) 16,()):=by
 have key:∀b:List Int,b=aC s->Loop (lq (h,s,u)) ((0,()),gJ 64,())=ab (((16:Int),()),Bn b 16,()):=by
  intro b a;refine dh 16 (λt=>(((t:Int),()),Bn b t,())) (λt p=>?_) ?_
  .have at_:∀(i:Int) (j:Nat),i=j->j<64->∃x,idx s i=ab x/\u8 x=b.getD j 0:=by
    intro i j e q;subst e;refine⟨s[j],?_,by rw[a];exact ae9 s ai _ (ia ai)⟩;rw[vW,ia]
   unfold lq;dsimp only;rw[aP ai,ae,four ai,ff ai ai,ff ai ai,ff ai ai];obtain⟨r,c,d⟩:=at_ _ (4*t) rfl ai;obtain⟨v,f,g⟩:=at_ (((4*t:Nat):Int)+1) (4*t+1) ai ai;obtain⟨w,k,l⟩:=at_ (((4*t:Nat):Int)+2) (4*t+2) ai ai;obtain⟨y,m,n⟩:=at_ (((4*t:Nat):Int)+3) (4*t+3) ai ai;rw[c,aa,aI aK,af,f,aa,aI aK,af,k,aa,aI aK,af,m,aa,aM ai ai,ae,
    fL _ 0 (by rw[uY];omega),aa,aa,aa,dA,aL ai,ig,d,g,l,n]
   rfl
  .unfold lq;dsimp only;rfl
 grind
def ahu(l:List Int)(a:l.length=64):Loop oV ((16,()),l,())=ab (((64:Int),()),Km l 48,()):=by
 refine dh 48 (λk=>((((16+k:Nat):Int),()),Km l k,())) (λk b=>?_) ?_
 .have hlen:(Km l k).length=64:=by rw[EZ,a]
  unfold oV;dsimp only;rw[aP ai,ae,dL ai ai,dL ai ai,dL ai ai,dL ai ai,
   aM ai ai,ae,nB _ 0 (k:=16+k-2) ai ai,aa,aM ai ai,ae,nB _ 0 (k:=16+k-15) ai ai,aa,
   t17,aa,t19,aa,aI aK,af,aM ai ai,ae,nB _ 0 (k:=16+k-7) ai ai,aa,t7,aa,t18,aa,aI aK,af,
   aM ai ai,ae,nB _ 0 (k:=16+k-16) ai ai,aa,aM ai ai,ae,fL _ 0 ai,aa,aa,aa,dA,aL ai,ig]
  rfl
 .unfold oV;dsimp only;rfl
abbrev W8:=Int×Int×Int×Int×Int×Int×Int×Int
def rnd(k w:Int):W8->W8
 | (a,b,c,d,e,f,g,h) =>
   let one:=aH .u32 (aH .u32 (aH .u32 (aH .u32 h<|gQ .u32 (gQ .u32 (Dn 6 e)<|Dn 11 e)<|Dn 25 e)<|gQ .u32 g<|jV .u32 e<|gQ .u32 f g) k) w
   let two:=aH .u32 (gQ .u32 (gQ .u32 (Dn 2 a)<|Dn 13 a)<|Dn 22 a) (zX .u32 (jV .u32 a b)<|jV .u32 c<|zX .u32 a b)
   (aH .u32 one two,a,b,c,aH .u32 d one,e,f,g)
def SP(K w:List Int)(s:W8):Nat->W8
 | 0=>s
 | t+1=>rnd (K.getD t 0) (w.getD t 0) (SP K w s t)
def Gu:List Int:=[1116352408,1899447441,3049323471,3921009573,961987163,1508970993,2453635748,2870763221,3624381080,310598401,607225278,1426881987,1925078388,2162078206,2614888103,3248222580,3835390401,4022224774,264347078,604807628,770255983,1249150122,1555081692,1996064986,2554220882,2821834349,2952996808,3210313671,3336571891,3584528711,113926993,338241895,666307205,773529912,1294757372,1396182291,1695183700,1986661051,2177026350,2456956037,2730485921,2820302411,3259730800,3345764771,3516065817,3600352804,4094571909,275423344,430227734,506948616,659060556,883997877,958139571,1322822218,1537002063,1747873779,1955562222,2024104815,2227730452,2361852424,2428436474,2756734187,3204031479,3329325298]
def abP:Cj ()=ab (Gu,()):=rfl
def Ym:xa ()=ab (Gu,()):=rfl
def uZ(s:W8)(t:Int):Int×Int×Int×Int×Int×Int×Int×Int×Int×al:=(s.1,s.2.1,s.2.2.1,s.2.2.2.1,s.2.2.2.2.1,s.2.2.2.2.2.1,s.2.2.2.2.2.2.1,s.2.2.2.2.2.2.2,t,())
def lX(s:W8):List Int:=[s.1,s.2.1,s.2.2.1,s.2.2.2.1,s.2.2.2.2.1,s.2.2.2.2.2.1,s.2.2.2.2.2.2.1,s.2.2.2.2.2.2.2]
def Yn(w:List Int)(i:w.length=64)(s:W8)(u v:al):Loop (ik (Gu,u) (w,v)) (uZ s 0,())=ab (uZ (SP Gu w s 64) 64,()):=by
 refine dh 64 (λt=>(uZ (SP Gu w s t) t,())) (λt j=>?_) ?_
 .show ik _ (w,v) _=ab (.inl (uZ (rnd _ _ _) _,()))
  generalize SP Gu w s t=q;obtain⟨a,b,c,d,e,f,g,h⟩:=q;unfold ik uZ;dsimp only;rw[aP ai,ae,r6,aa,r11,aa,r25,aa,aM ai ai,ae,fL Gu 0 (by show t<64;omega),aa,ae,fL w 0 ai,aa,
   r2,aa,r13,aa,r22,aa,dA,aL ai]
  rfl
 .unfold ik uZ;rfl
def Yo(w:List Int)(A:w.length=64)(s:W8)(q:Int×al)(u v:al):Loop (lr (q,w,u) (Gu,v)) ((0,()),lX s,())=ab (((64:Int),()),lX<|SP Gu w s 64,()):=by
 refine dh 64 (λt=>(((t:Int),()),lX<|SP Gu w s t,())) (λt i=>?_) ?_
 .show lr _ _ _=ab (.inl ((((t+1:Nat):Int),()),lX<|rnd _ _ _,()))
  generalize SP Gu w s t=q;obtain⟨a,b,c,d,e,f,g,h⟩:=q;have j:idx (lX (a,b,c,d,e,f,g,h)) 0=ab a:=rfl;have k:idx (lX (a,b,c,d,e,f,g,h)) 1=ab b:=rfl;have l:idx (lX (a,b,c,d,e,f,g,h)) 2=ab c:=rfl;have m:idx (lX (a,b,c,d,e,f,g,h)) 3=ab d:=rfl;have n:idx (lX (a,b,c,d,e,f,g,h)) 4=ab e:=rfl;have o:idx (lX (a,b,c,d,e,f,g,h)) 5=ab f:=rfl;have p:idx (lX (a,b,c,d,e,f,g,h)) 6=ab g:=rfl;have r:idx (lX (a,b,c,d,e,f,g,h)) 7=ab h:=rfl;have w0:within 0 8=true:=aK;have w1:within 1 8=true:=aK;have w2:within 2 8=true:=aK;have w3:within 3 8=true:=aK;have w4:within 4 8=true:=aK;have x:within 5 8=true:=aK;have y:within 6 8=true:=aK;have z:within 7 8=true:=aK;have wt:within (t:Int) 64=true:=aM ai ai;unfold lr;simp only[aP<|show(t:Int)<64 by omega,ae,w0,w1,w2,w3,w4,x,y,z,wt,j,k,l,m,n,o,p,r,aa,t6,t11,t25,t2,t13,t22,fL Gu 0 i,fL w 0 (show t<w.length by omega),dA,aL (show t<4611686018427387904 by omega),
   <-akZ,<-ajq]
  rfl
 .unfold lr;rfl
def of8(l:List Int):W8:=(l.getD 0 0,l.getD 1 0,l.getD 2 0,l.getD 3 0,l.getD 4 0,l.getD 5 0,l.getD 6 0,l.getD 7 0)
def abQ(l:List Int)(i:l.length=8):lX (of8 l)=l:=by
 match l,i with
 | [a,b,c,d,e,f,g,h],_=>rfl
def Au(l m:List Int):Nat->List Int
 | 0=>l
 | i+1=>(Au l m i).set i (aH .u32 (l.getD i 0)<|m.getD i 0)
def Ck(l m:List Int)(i:Nat):(Au l m i).length=l.length:=by
 induction i with
 | zero=>rfl
 | succ i a=>simp[Au,a]
def aaj(l m:List Int):∀(i j:Nat),i<=j->(Au l m i).getD j 0=l.getD j 0:=by
 intro i;induction i with
 | zero=>intro j _;rfl
 | succ i a =>
   intro j h;have:=a j ai;simp only[Au,Xd,ZI] at this⊢
   grind
def comp(h b:List Int):List Int:=Au h (lX<|SP Gu (As b) (of8 h) 64) 8
def VF(h b:List Int):(comp h b).length=h.length:=Ck _ _ _
def abR(l m:List Int)(i:l.length=8)(j:m.length=8):Au l m 8=Au m l 8:=by
 match l,i,m,j with
 | [a,b,c,d,e,f,g,h],_,[k,n,o,p,q,r,s,t],_ =>
   simp only[Au,List.set,List.getD_cons_zero,List.getD_cons_succ];simp only[Vs]
def abS(h:List Int)(c:h.length=8)(s:aw)(f:s.length=64)(u:al):tZ (h,s,u)=ab (comp h<|aC s,()):=by
 have g:(Bn (aC s) 16).length=64:=uY _ _;unfold tZ;rw[aai,abO h s f,aa];rw[ahu _ g,aa,Ym,aa];have j:=(abQ h c).symm;have b:(As<|aC s).length=64:=Gt _;have d:=Yo _ b (of8 h) ((64:Int),()) () ();rw[<-j] at d;rw[show Km _ 48=As _ from rfl,d,aa];generalize e:lX _=m;have a:m.length=8:=by rw[<-e];rfl
 have:Loop (oW (h,s,u)) ((0,()),m,())=ab (((8:Int),()),Au m h 8,()):=by
  refine dh 8 (λi=>(((i:Int),()),Au m h i,())) (λi k=>?_) ?_
  .have l:(Au m h i).length=8:=by rw[Ck,a]
   unfold oW;simp only[aP<|show(i:Int)<8 by omega,ae,aM (show(0:Int)<=i by omega) (show _<8 by omega),fL _ 0 (show i<(Au m h i).length by omega),fL h 0 (show i<h.length by omega),aa,dA,aL (show i<4611686018427387904 by omega),ig];rw[aaj m h i i<|cq _];rfl
  .unfold oW;rfl
 rw[this,aa];rw[abR m h a c];unfold comp;rw[e]
def H0:List Int:=[1779033703,3144134277,1013904242,2773480762,1359893119,2600822924,528734635,1541459225]
def abT:uW ()=ab (H0,()):=rfl
def Pm:yR ()=ab (H0,()):=rfl
def Av(a:aw):Nat->List Int
 | 0=>H0
 | k+1=>comp (Av a k) (aC<|(a.drop<|64*k).take 64)
def Aw(a:aw)(k:Nat):(Av a k).length=8:=by
 induction k with
 | zero=>rfl
 | succ k b=>simp only[Av];rw[VF,b]
def aak(a b:aw):∀k,64*k<=a.length->Av (a++b) k=Av a k:=by
 intro k;induction k with
 | zero=>intro _;rfl
 | succ k c =>
   intro h;simp only[Av]
   grind
abbrev E0:=(Bool×List Int×al)×List Int×Int×al
def Inv(c:E0)(a:aw):Prop :=
 ∃b,c=((decide<|64<=a.length,(if 64<=a.length then Av a (a.length / 64) else gJ 8),()),b,(a.length:Int),())/\b.length=64/\b.take (a.length % 64)=aC (a.drop<|64*(a.length / 64))
def afa:E0:=((false,gJ 8,()),gJ 64,0,())
def amX:Inv afa []:=⟨gJ 64,rfl,rfl,rfl⟩
def ui(a b:aw):aC (a++b)=aC a++aC b:=by simp[aC]
def Cl(a:aw)(n:Nat):(aC a).take n=aC (a.take n):=by simp[aC,List.map_take]
def gA(a:aw):(aC a).length=a.length:=by simp[aC]
def xg(a b:Nat):jK (a:Int) (b:Int)=((a % b:Nat):Int):=by
 unfold jK;rw[Int.tmod_eq_emod_of_nonneg ai];exact(Int.natCast_emod a b).symm
def afb(q:W8)(a:E0)(b:a.1.2.1.length=8):Loop (iq (uZ q 64,())) ((0,()),a,())=ab (((8:Int),()),((a.1.1,Au a.1.2.1 (lX q) 8,a.1.2.2),a.2),()):=by
 obtain⟨⟨c,h,u⟩,d⟩:=a;refine dh (f:=iq (uZ q 64,())) 8 (λi=>(((i:Int),()),((c,Au h (lX q) i,u),d),())) (λi j=>?_) ?_
 .have k:(Au h (lX q) i).length=8:=by rw[Ck,b]
  have e:([(uZ q 64).1,(uZ q 64).2.1,(uZ q 64).2.2.1,(uZ q 64).2.2.2.1,(uZ q 64).2.2.2.2.1,(uZ q 64).2.2.2.2.2.1,(uZ q 64).2.2.2.2.2.2.1,(uZ q 64).2.2.2.2.2.2.2.1]:List Int)=lX q:=rfl;unfold iq;rw[e];have g:(lX q).length=8:=rfl;simp only[aP<|show(i:Int)<8 by omega,ae,aM (show(0:Int)<=i by omega) (show(i:Int)<8 by omega),fL (Au h (lX q) i) 0 (show i<(Au h (lX q) i).length by omega),fL (lX q) 0 (show i<(lX q).length by omega),aa,dA,aL (show i<4611686018427387904 by omega),ig];rw[aaj h (lX q) i i<|cq _];rfl
 .unfold iq;rfl
def afc(part a:aw)(M:E0)(O:part≠[])(P:Inv M a)(hb:a.length+part.length<1152921504606846976) :
  ∃q,fV ((part,()),M,())=ab (.inl ((part.drop<|64-a.length % 64,()),q,()))/\Inv q (a++part.take (64-a.length % 64)):=by
 obtain⟨d,rfl,hw,Q⟩:=P;generalize R:a.length=N at *;have S:N % 64<64:=Bc _ aK;have C:jK (N:Int) 64=((N % 64:Nat):Int):=xg N 64;have em:jd (aC part) (minus (64:Int) ((N % 64:Nat):Int))=aC (part.take<|64-N % 64):=by
  unfold jd minus;rw[show((64:Int)-((N % 64:Nat):Int)).toNat=64-N % 64 by omega,Cl]
 generalize j:(part.take<|64-N % 64).length=k;have T:k=min (64-N % 64) part.length:=by rw[<-j,km]
 have U:0<k:=by
  have:0<part.length:=by cases part with|nil=>exact absurd rfl O|cons=>simp
  omega
 have s:len (aC<|part.take<|64-N % 64)=(k:Int):=by unfold len;rw[gA,j]
 have t:aH .i64 ((N % 64:Nat):Int) (k:Int)=((N % 64+k:Nat):Int):=by rw[ff ai ai];omega
 have l:aH .i64 (N:Int) (k:Int)=((N+k:Nat):Int):=by rw[ff ai ai];omega
 have u:inside ((N % 64:Nat):Int) 64 64=true:=aU ai ai ai;have v:inside (k:Int) (len part) (len part)=true:=aU ai ft ai;have w:sub part (k:Int) (minus (len part) (k:Int))=part.drop k:=by
  unfold sub minus len;rw[pS,Hp (by rw[nV];omega)]
 have z:part.drop k=part.drop (64-N % 64):=by
  rcases Nat.le_total (64-N % 64) part.length with h|h
  .rw[show k=64-N % 64 by omega]
  .rw[JT ai,JT h]
 have m:over d ((N % 64:Nat):Int) (aC<|part.take<|64-N % 64)=aC (a.drop (64*(N / 64))++part.take (64-N % 64))++d.drop (N % 64+k):=by
  unfold over;rw[pS,Q,gA,j,ui]
 have D:nt (bG part [])=true:=by
  unfold bG nt;cases part with
  | nil=>exact absurd rfl O
  | cons x r=>rfl
 have e:(a++part.take (64-N % 64)).length=N+k:=by rw[hY,R,j]
 have V:64*(N / 64)+N % 64=N:=Ug N 64;have b:(a.drop<|64*(N / 64)).length=N % 64:=by rw[nV];omega
 have g:(aC (a.drop (64*(N / 64))++part.take (64-N % 64))++d.drop (N % 64+k)).length=64:=by
  rw[hY,gA,hY,b,j,nV];omega
 unfold fV;dsimp only;simp only[D,ae,ax (show(64:Int)≠0 by decide),af,C,u,em,s,v,t,l,w,m];by_cases E:N % 64+k=64
 ·
  have F:d.drop (N % 64+k)=[]:=by rw[JT ai]
  simp only[aE<|show((N % 64+k:Nat):Int)=64 by omega,ae,F,zi] at g⊢;generalize A:aC (a.drop (64*(N / 64))++part.take (64-N % 64))=blk at *;have B:(N+k) / 64=N / 64+1:=ai;have n:(N+k) % 64=0:=ai;have p:((a++part.take (64-N % 64)).drop<|64*(N / 64)).take 64=a.drop (64*(N / 64))++part.take (64-N % 64):=by
   rw[Zy ai,Hp (by rw[hY,b,j];omega)]
  have G:∃H:Bool,H=true/\(ag (ao (nt<|decide<|64<=N) (ag (uW ()) λI:List Int×al=>ab ((),((true,I.1,()),blk,((N+k:Nat):Int),()),()))<|some ((),((decide<|64<=N,(if 64<=N then Av a (N / 64) else gJ 8),()),blk,((N+k:Nat):Int),()),())) λy:al×E0×al=>ab y)=ab ((),((true,Av a (N / 64),()),blk,((N+k:Nat):Int),()),()):=by
   refine⟨true,rfl,?_⟩;by_cases c:64<=N
   .simp only[c,LH,vD];rfl
   .have:N / 64=0:=ai;simp only[c,adX,if_false,this,abT];rfl
  obtain⟨_,_,G⟩:=G;have J:(ao (nt<|decide<|64<=N) (ag (uW ()) λI:List Int×al=>ab ((),((true,I.1,()),blk,((N+k:Nat):Int),()),())) (ab ((),((decide<|64<=N,(if 64<=N then Av a (N / 64) else gJ 8),()),blk,((N+k:Nat):Int),()),())):Option (al×E0×al))=ab ((),((true,Av a (N / 64),()),blk,((N+k:Nat):Int),()),()):=by
   have:∀o:Option (al×E0×al),(ag o λy=>ab y)=o:=by intro o;cases o<;>rfl
   exact(this _).symm.trans G
  rw[J,aa,abP,aa,SO blk g,aa];dsimp only;have K:=Aw a (N / 64);have W:=nB (Av a<|N / 64) 0 (i:=0) (k:=0) rfl ai;have X:=nB (Av a<|N / 64) 0 (i:=1) (k:=1) rfl ai;have Y:=nB (Av a<|N / 64) 0 (i:=2) (k:=2) rfl ai;have Z:=nB (Av a<|N / 64) 0 (i:=3) (k:=3) rfl ai;have i4:=nB (Av a<|N / 64) 0 (i:=4) (k:=4) rfl ai;have i5:=nB (Av a<|N / 64) 0 (i:=5) (k:=5) rfl ai;have i6:=nB (Av a<|N / 64) 0 (i:=6) (k:=6) rfl ai;have i7:=nB (Av a<|N / 64) 0 (i:=7) (k:=7) rfl ai;have w0:within 0 8=true:=aK;have w1:within 1 8=true:=aK;have w2:within 2 8=true:=aK;have w3:within 3 8=true:=aK;have w4:within 4 8=true:=aK;have w5:within 5 8=true:=aK;have w6:within 6 8=true:=aK;have w7:within 7 8=true:=aK;simp only[w0,w1,w2,w3,w4,w5,w6,w7,ae,W,X,Y,Z,i4,i5,i6,i7,aa];have hr:=Yn (As blk) (Gt blk) (of8<|Av a<|N / 64) () ();rw[show((Av a<|N / 64).getD 0 0,(Av a<|N / 64).getD 1 0,(Av a<|N / 64).getD 2 0,(Av a<|N / 64).getD 3 0,(Av a<|N / 64).getD 4 0,(Av a<|N / 64).getD 5 0,(Av a<|N / 64).getD 6 0,(Av a<|N / 64).getD 7 0,(0:Int),())=uZ (of8<|Av a<|N / 64) 0 from rfl,hr,aa];rw[afb _ ((true,Av a (N / 64),()),blk,((N+k:Nat):Int),()) K,aa,aa,dA];dsimp only;refine⟨_,by rw[z],?_⟩;refine⟨blk,?_,g,?_⟩
  .rw[e];have c:64<=N+k:=ai;simp only[c,LH,vD];have L:Av (a++part.take (64-N % 64)) ((N+k) / 64)=Au (Av a<|N / 64) (lX<|SP Gu (As blk) (of8<|Av a<|N / 64) 64) 8:=by
    rw[B];simp only[Av];rw[aak a _ _ ai,p,A];rfl
   rw[L]
  .rw[e,n,B,ZQ,JT ai];rfl
 .have hnf:N % 64+k<64:=ai;simp only[ax<|show((N % 64+k:Nat):Int)≠64 by omega,af,aa,dA];refine⟨_,by rw[z],?_⟩;have B:(N+k) / 64=N / 64:=ai;have n:(N+k) % 64=N % 64+k:=ai;refine⟨_,?_,g,?_⟩
  .rw[e,B];by_cases c:64<=N
   .have f:64<=N+k:=ai;simp only[c,f,LH,vD];rw[aak a _ _ ai]
   .have f:¬64<=N+k:=ai;simp only[c,f,adX,if_false]
  .rw[e,n,B,adr (by rw[gA,hY,b,j];omega),Hp (by rw[gA,hY,b,j];omega),Zy ai]
def afd:∀(n:Nat) (part all:aw) (st:E0),part.length<=n->Inv st all->all.length+part.length<1152921504606846976 ->
  ∃a,Loop fV ((part,()),st,())=ab (([],()),a,())/\Inv a (all++part):=by
 intro n;induction n with
 | zero =>
   intro part all st f b d;obtain rfl:part=[]:=aiA ai;refine⟨st,?_,by rw[zi];exact b⟩;rw[aT];have:fV (([],()),st,())=ab (.inr (([],()),st,())):=by
    unfold fV;rw[show nt _=false from rfl,af,lh]
   grind
 | succ n g =>
   intro part all st f b d;by_cases h:part=[]
   .grind
   .obtain⟨c,i,j⟩:=afc part all st h b d;obtain⟨a,k,e⟩:=g (part.drop<|64-all.length % 64) _ c (by rw[nV];omega) j (by rw[hY,km,nV];omega);refine⟨a,?_,by rw[uH,BR] at e;exact e⟩;rw[aT,i];exact k
def K3(a b:aw)(d:E0)(e:Inv d b)(f:b.length+a.length<1152921504606846976):∃c,gp ((a,()),d,())=ab ((),c,())/\Inv c (b++a):=by
 obtain⟨c,g,h⟩:=afd a.length a b d (cq _) e f;refine⟨c,?_,h⟩;unfold gp;rw[g,aa]
def zs(n:Nat):Nat:=(119-n % 64) % 64
def eh(n k:Nat):Int:=kF .u8 (mE .u64 (jH .u64 (kF .u64 (n:Int)) 8) ((8*k:Nat):Int))
def Pn(n:Nat):List Int:=[eh n 7,eh n 6,eh n 5,eh n 4,eh n 3,eh n 2,eh n 1,eh n 0]
def pad(s:aw):aw:=s++[128]++List.replicate (zs s.length) 0++bu (Pn s.length)
def E1(s:aw):(pad s).length=s.length+1+zs s.length+8:=by simp[pad,bu,Pn];omega
def aal(s:aw):(pad s).length % 64=0:=by rw[E1];unfold zs;omega
def mM(s:aw):bu (aC s)=s:=by
 unfold bu aC;rw[List.map_map]
 conv=>rhs;rw[<-List.map_id s]
 apply Lw;simp_all
def yS(a b:List Int):bu (a++b)=bu a++bu b:=by simp[bu]
def VG(s:aw)(b:s.length<=1048576):Loop lp (((),()),aC s++[128],())=ab (((),()),aC s++[128]++gJ (zs s.length),()):=by
 have c:zs s.length<64:=Bc _ aK;have:=dh (f:=lp) (zs s.length) (λj=>(((),()),aC s++[128]++gJ j,())) (λj a=>by
  unfold lp;have el:len (aC s++[128]++gJ j)=((s.length+1+j:Nat):Int):=by unfold len;simp[aC,gJ];omega
  rw[ax aK,af,el,show((64:Int))=((64:Nat):Int) from rfl,xg,ax (by unfold zs at a;omega),show nt false=true from rfl,ae,ec (by simp only[plus,len,DE];omega),ae,dA]
  congr 4
  show aC s++[128]++gJ j++[0]=_
  rw[uH,show gJ j++[0]=gJ (j+1) from by simp[gJ,List.replicate_succ']])
  (by
   unfold lp;have el:len (aC s++[128]++gJ (zs s.length))=((s.length+1+zs s.length:Nat):Int):=by unfold len;simp[aC,gJ];omega
   rw[ax aK,af,el,show((64:Int))=((64:Nat):Int) from rfl,xg,aE (by unfold zs;omega),show nt true=false from rfl,af,lh])
 have d:aC s++[128]++gJ 0=aC s++[128]:=by simp[gJ]
 grind
def abU(s:aw)(b:List Int)(p:s.length<=1048576)(q:b.length<=2097152)(u:al):Loop (fw (s,u)) (((),7,()),b,())=ab (((),-1,()),b++Pn s.length,()):=by
 have step:∀(k:Nat) (c:List Int),k<=7->c.length<=2097160->fw (s,u) (((),(k:Int),()),c,())=ab (.inl (((),(k:Int)-1,()),c++[eh s.length k],())):=by
  intro k c d e;unfold fw;dsimp only;have f:jH .i64 8 (k:Int)=((8*k:Nat):Int):=by rw[Ch ai ai];omega
  rw[bO ai,ae,f,aI ai,af,ec (by simp only[plus,len,DE];omega),ae,dL ai ai,dA];rfl
 have a:∀c:List Int,fw (s,u) (((),(-1:Int),()),c,())=ab (.inr (((),-1,()),c,())):=by
  intro c;unfold fw;dsimp only;rw[ea aK,af,lh]
 have L:∀(k:Nat) (c:List Int),k<=7->c.length<=2097160->Loop (fw (s,u)) (((),(k:Int),()),c,())=Loop (fw (s,u)) (((),(k:Int)-1,()),c++[eh s.length k],()):=by
  intro k c d e;rw[aT,step k c d e];rfl
 have g:=L 7 b ai ai;have h:=L 6 (b++[eh s.length 7]) ai nU;have i:=L 5 (b++[eh s.length 7]++[eh s.length 6]) ai nU;have j:=L 4 (b++[eh s.length 7]++[eh s.length 6]++[eh s.length 5]) ai nU;have l:=L 3 (b++[eh s.length 7]++[eh s.length 6]++[eh s.length 5]++[eh s.length 4]) ai nU;have m:=L 2 (b++[eh s.length 7]++[eh s.length 6]++[eh s.length 5]++[eh s.length 4]++[eh s.length 3]) ai nU;have n:=L 1 (b++[eh s.length 7]++[eh s.length 6]++[eh s.length 5]++[eh s.length 4]++[eh s.length 3]++[eh s.length 2]) ai nU;have o:=L 0 (b++[eh s.length 7]++[eh s.length 6]++[eh s.length 5]++[eh s.length 4]++[eh s.length 3]++[eh s.length 2]++[eh s.length 1]) ai nU;refine g.trans (h.trans<|i.trans<|j.trans<|l.trans<|m.trans<|n.trans<|o.trans ?_);have:b++[eh s.length 7]++[eh s.length 6]++[eh s.length 5]++[eh s.length 4]++[eh s.length 3]++[eh s.length 2]++[eh s.length 1]++[eh s.length 0]=b++Pn s.length:=by simp[Pn]
 rw[this];show Loop _ (((),-1,()),_)=_
 rw[aT,a];rfl
def abV(s:aw)(a:s.length<=1048576):tY (s,())=ab (pad s,()):=by
 have b:zs s.length<64:=Bc _ aK;unfold tY;dsimp only;rw[ec ft,ae,ec (by simp only[plus,len,DE,gA];omega),ae,show app _ _=aC s++[128] from rfl,VG s a,aa];rw[abU s _ a<|by simp[gA,gJ];omega,aa];rw[yS,yS,yS,mM];have:bu (gJ<|zs s.length)=List.replicate (zs s.length) 0:=by unfold bu gJ;rw[List.map_replicate];rfl
 rw[this];rfl
def Yp(t:aw)(c:t.length % 64=0)(d:t.length<=2097152)(u:al):Loop (oh (t,u)) ((0,()),H0,())=ab (((t.length:Int),()),Av t<|t.length / 64,()):=by
 have:=dh (f:=oh (t,u)) (t.length / 64) (λj=>((((64*j:Nat):Int),()),Av t j,())) (λj e=>by
  unfold oh;dsimp only;rw[ff ai ai,bO ft,ae,aU ai ai ft,ae];have b:sub t ((64*j:Nat):Int) (minus (((64*j:Nat):Int)+64) ((64*j:Nat):Int))=(t.drop<|64*j).take 64:=by
   unfold sub minus
   grind
  rw[b,abS _ (Aw t j) _ (by rw[km,nV];omega),aa,dA];rfl)
  (by
   unfold oh;dsimp only;have a:64*(t.length / 64)=t.length:=ai;rw[a,ff ai ai,ea ft,af,lh])
 exact this
def amY(h:List Int)(i:Nat):Int:=kF .u8 (mE .u32 (h.getD (i / 4) 0) ((24-8*(i % 4):Nat):Int))
def VH(h:List Int):Nat->List Int
 | 0=>gJ 32
 | i+1=>(VH h i).set i (amY h i)
def Cm(h:List Int)(i:Nat):(VH h i).length=32:=by
 induction i with
 | zero=>rfl
 | succ i a=>simp[VH,a]
def aam:([0,0,0,0,0,0,0,0,0,0,0,0,0,0,0,0,0,0,0,0,0,0,0,0,0,0,0,0,0,0,0,0]:List Int)=gJ 32:=rfl
def afe{a:Nat}(h:a<4611686018427387904):LJ .i64 (a:Int) 4=((a / 4:Nat):Int):=by
 unfold LJ;have:=Ao (a:=((a / 4:Nat):Int)) ai ai;unfold kF at this
 grind
def VI{h o:List Int}(a:h.length=8)(b:o.length=32)(i:Nat)(c:i<32):LJ .i64 (i:Int) 4=((i / 4:Nat):Int)/\db .i64 24 (jH .i64 8<|jK (i:Int) 4)=((24-8*(i % 4):Nat):Int):=by
 refine⟨afe ai,?_⟩;rw[show(4:Int)=((4:Nat):Int) from rfl,xg,Ch ai ai,dL ai ai];omega
def ahv(h:List Int)(a:h.length=8)(q:Int×al)(u:al):Loop (r0 (q,h,u)) ((0,()),gJ 32,())=ab (((32:Int),()),VH h 32,()):=by
 refine dh 32 (λi=>(((i:Int),()),VH h i,())) (λi b=>?_) ?_
 .have c:=Cm h i;obtain⟨d,e⟩:=VI a c i b;unfold r0;dsimp only;rw[aP ai,ae,ax aK,af,d,aM ai ai,ae,fL h 0 ai,aa,af,e,aI ai,af,aM ai ai,ae,
   fL _ 0 ai,aa,aa,aa,dA,aL ai,ig]
  rfl
 .unfold r0;dsimp only;rfl
def ahw(h w:List Int)(f:h.length=8)(g:Bool)(n:Int)(a b c d e:al)(r:al):Loop (kL (r,((g,h,a),w,n,b),c)) ((0,()),gJ 32,())=ab (((32:Int),()),VH h 32,()):=by
 refine dh 32 (λi=>(((i:Int),()),VH h i,())) (λi j=>?_) ?_
 .have k:=Cm h i;obtain⟨l,m⟩:=VI f k i j;unfold kL;dsimp only;rw[aP ai,ae,ax aK,af,l,aM ai ai,ae,fL h 0 ai,aa,af,m,aI ai,af,aM ai ai,ae,
   fL _ 0 ai,aa,aa,aa,dA,aL ai,ig]
  rfl
 .unfold kL;dsimp only;rfl
def sha(s:aw):List Int:=VH (Av (pad s)<|(pad s).length / 64) 32
def qS(s:aw):(sha s).length=32:=Cm _ _
def Yq(s:aw)(a:s.length<=1048576):ya (s,())=ab (sha s,()):=by
 have b:zs s.length<64:=Bc _ aK;unfold ya;rw[Pm,aa];rw[abV s a,aa,Yp _ (aal s) (by rw[E1];omega),aa,aam,ahv _ (Aw _ _),aa];dsimp only[sha]
def abW(s:aw)(q:s.length<=1152921504606840000)(b:E0)(d:Inv b (s++[128])):∃a,Loop eV ((),b,())=ab ((),a,())/\Inv a (s++[128]++List.replicate (zs s.length) 0):=by
 have r:zs s.length<64:=Bc _ aK;have key:∀(m j:Nat) (b:E0),j+m=zs s.length->Inv b (s++[128]++List.replicate j 0)->∃a,Loop eV ((),b,())=ab ((),a,())/\Inv a (s++[128]++List.replicate (zs s.length) 0):=by
  intro m;induction m with
  | zero =>
    intro j b g d;obtain rfl:j=zs s.length:=ai;refine⟨b,?_,d⟩;obtain⟨c,rfl,i,k⟩:=d;rw[aT];have:eV ((),((decide<|64<=(s++[128]++List.replicate (zs s.length) 0).length,(if 64<=(s++[128]++List.replicate (zs s.length) 0).length then Av (s++[128]++List.replicate (zs s.length) 0) ((s++[128]++List.replicate (zs s.length) 0).length / 64) else gJ 8),()),c,((s++[128]++List.replicate (zs s.length) 0).length:Int),()),())=ab (.inr ((),((decide<|64<=(s++[128]++List.replicate (zs s.length) 0).length,(if 64<=(s++[128]++List.replicate (zs s.length) 0).length then Av (s++[128]++List.replicate (zs s.length) 0) ((s++[128]++List.replicate (zs s.length) 0).length / 64) else gJ 8),()),c,((s++[128]++List.replicate (zs s.length) 0).length:Int),()),())):=by
     have l:(s++[128]++List.replicate (zs s.length) (0:UInt8)).length=s.length+1+zs s.length:=nU;unfold eV;rw[ax aK,af,l,show((64:Int))=((64:Nat):Int) from rfl,xg,aE (by unfold zs;omega),show nt true=false from rfl,af,lh]
    grind
  | succ m n =>
    intro j b g d;obtain⟨e,o,h⟩:=K3 [0] _ b d nU;obtain⟨a,t,p⟩:=n (j+1) e ai (by
     rw[uH,show List.replicate j (0:UInt8)++[0]=List.replicate _ 0 from by rw[List.replicate_succ']] at h;exact h)
    refine⟨a,?_,p⟩;rw[aT];have f:b.2.2.1=((s.length+1+j:Nat):Int):=by
     obtain⟨c,rfl,i,k⟩:=d
     grind
    have:eV ((),b,())=ab (.inl ((),e,())):=by
     unfold eV;rw[ax aK,af,f,show((64:Int))=((64:Nat):Int) from rfl,xg,ax (by unfold zs at g;omega),show nt false=true from rfl,ae,o,aa,dA]
    grind
 exact key (zs s.length) 0 b ai (by simpa using d)
def aff(n:Nat)(i:n<=1152921504606840000)(a:E0)(b:a.2.2.1=(n:Int))(u v:al):Loop (kK (u,a,v)) ((0,()),gJ 8,())=ab (((8:Int),()),Pn n,()):=by
 obtain⟨d,e,m,q⟩:=a;subst b;have step:∀(k:Nat) (c:List Int),k<8->c.length=8->kK (u,(d,e,(n:Int),q),v) (((k:Int),()),c,())=ab (.inl ((((k+1:Nat):Int),()),c.set (7-k)<|eh n k,())):=by
  intro k c f j;unfold kK;dsimp only;have g:jH .i64 8 (k:Int)=((8*k:Nat):Int):=by rw[Ch ai ai];omega
  have h:db .i64 7 (k:Int)=((7-k:Nat):Int):=by rw[dL ai ai];omega
  rw[aP ai,ae,g,aI ai,af,h,aM ai ai,ae,fL c 0 ai,aa,aa,aa,dA,aL ai,ig];rfl
 have:=dh 8 (λk=>(((k:Int),()),(match k with
  | 0=>gJ 8
  | 1=>[0,0,0,0,0,0,0,eh n 0]
  | 2=>[0,0,0,0,0,0,eh n 1,eh n 0]
  | 3=>[0,0,0,0,0,eh n 2,eh n 1,eh n 0]
  | 4=>[0,0,0,0,eh n 3,eh n 2,eh n 1,eh n 0]
  | 5=>[0,0,0,eh n 4,eh n 3,eh n 2,eh n 1,eh n 0]
  | 6=>[0,0,eh n 5,eh n 4,eh n 3,eh n 2,eh n 1,eh n 0]
  | 7=>[0,eh n 6,eh n 5,eh n 4,eh n 3,eh n 2,eh n 1,eh n 0]
  | _=>Pn n:List Int),())) (λk f=>by
    rcases(by omega:k=0\/k=1\/k=2\/k=3\/k=4\/k=5\/k=6\/k=7) with rfl|rfl|rfl|rfl|rfl|rfl|rfl|rfl<;>exact(step _ _ ai rfl).trans rfl)
  (by
   rfl)
 grind
def ahx(s:aw)(p:s.length<=1048576)(a:E0)(i:Inv a s)(u v:al):oU (u,a,v)=ab ((sha s,()),a,()):=by
 have q:zs s.length<64:=Bc _ aK;have c:a.2.2.1=(s.length:Int):=by obtain⟨b,rfl,_⟩:=i;rfl
 obtain⟨d,j,k⟩:=K3 [128] s a i nU;obtain⟨e,l,m⟩:=abW s ai d k;obtain⟨f,n,o⟩:=K3 (bu<|Pn s.length) _ e m (by simp[bu,Pn];omega);unfold oU;rw[aam,show bu _=[128] from rfl,j,aa];rw[l,aa];rw[show([0,0,0,0,0,0,0,0]:List Int)=gJ 8 from rfl,aff s.length ai a c,aa,aU aK aK aK,ae];rw[show sub _ 0 _=Pn s.length from rfl,n,aa];have g:Inv f (pad s):=o;obtain⟨b,rfl,r,t⟩:=g;have h:64<=(pad s).length:=by have:=aal s;rw[E1] at this⊢;omega
 simp only[h,LH,vD];rw[ahw _ _ (Aw _ _) _ _ () () () () () (),aa];dsimp only[sha]
def Yr(s:aw)(b:s.length<=1048576):Dj (s,())=ab (sha s,()):=by
 obtain⟨a,c,d⟩:=K3 s [] afa amX nU;unfold Dj;rw[show((false,([0,0,0,0,0,0,0,0]:List Int),()),([0,0,0,0,0,0,0,0,0,0,0,0,0,0,0,0,0,0,0,0,0,0,0,0,0,0,0,0,0,0,0,0,0,0,0,0,0,0,0,0,0,0,0,0,0,0,0,0,0,0,0,0,0,0,0,0,0,0,0,0,0,0,0,0]:List Int),_,())=afa from rfl,c,aa];rw[ahx s b a<|by simpa using d,aa]
abbrev an5:=(Bool×aw×Int×al)×E0×E0×al
def Ys:aw:=[48,49,50,51,52,53,54,55,56,57,97,98,99,100,101,102]
def hx(n:Nat):UInt8:=Ys.getD n 0
def sg:aw->aw
 | []=>[]
 | b::r=>hx (b.toNat / 16)::hx (b.toNat % 16)::sg r
def lY(l:aw):(sg l).length=2*l.length:=by
 induction l with
 | nil=>rfl
 | cons b r a=>simp only[sg,eU,a];omega
def afg(a b:aw):sg (a++b)=sg a++sg b:=by
 induction a with
 | nil=>rfl
 | cons x r c=>simp only[JW,sg,c]
def ahy:∀n:Fin 256,idx Ys (mE .u8 (n.val:Int) 4)=ab (hx<|n.val / 16):=by decide +kernel
def ahz:∀n:Fin 256,idx Ys (jV .u8 (n.val:Int) 15)=ab (hx<|n.val % 16):=by decide +kernel
def aju(b:UInt8):idx Ys (mE .u8 (u8 b) 4)=ab (hx<|b.toNat / 16):=ahy ⟨b.toNat,b.toNat_lt⟩
def ajv(b:UInt8):idx Ys (jV .u8 (u8 b) 15)=ab (hx<|b.toNat % 16):=ahz ⟨b.toNat,b.toNat_lt⟩
def zC(s:aw){k:Nat}(h:k<s.length):idx (aC s) (k:Int)=ab (u8 s[k]):=by
 rw[vW];simp[aC,u8,h]
def Dp(s:aw){k:Nat}(h:k<s.length):idx s (k:Int)=ab s[k]:=by
 rw[vW];simp[h]
def lA(s:aw):len (aC s)=(s.length:Int):=by simp[len,aC]
def SQ(s:aw){k:Nat}(h:k<s.length):s.take (k+1)=s.take k++[s[k]]:=by
 rw[ED,ia h];rfl
def aan(s:aw){k:Nat}(h:k<s.length):aC (sg<|s.take<|k+1)=(aC (sg<|s.take k)++[u8<|hx<|s[k].toNat / 16])++[u8<|hx<|s[k].toNat % 16]:=by
 rw[SQ s h,afg,ui,uH];rfl
def afh(s:aw)(a:s.length<=1048576){k:Nat}(h:k<s.length)(x y:Int) :
  fits (plus (len<|aC<|sg<|s.take k)<|len [x])=true/\fits (plus (len<|aC (sg<|s.take k)++[x])<|len [y])=true:=by
 constructor
 .apply ec;rw[lA,lY];simp only[km,plus,len,eU,gj];omega
 .apply ec;have:(aC (sg<|s.take k)++[x]).length=2*min k s.length+1:=by
   rw[hY,gA,lY,km];rfl
  simp only[plus,len,this,eU,gj];omega
def SR(s:aw)(b:s.length<=1048576):mg (s,())=ab (sg s,()):=by
 unfold mg;dsimp only;rw[ec<|by simp only[len];omega,ae];have key:Loop (mH (s,())) ((0,()),((),(),()),[],())=ab (((s.length:Int),()),((),(),()),aC<|sg s,()):=by
  have:=dh (f:=mH (s,())) (r:=(((s.length:Int),()),((),(),()),aC<|sg s,())) s.length (λk=>(((k:Int),()),((),(),()),aC<|sg<|s.take k,())) (λk a=>by
   unfold mH;dsimp only;obtain⟨c,d⟩:=afh s b a (u8<|hx<|s[k].toNat / 16) (u8<|hx<|s[k].toNat % 16);rw[lA,aP ai,ae,aM ai ai,ae,zC s a,aa,aI aK,af];rw[show([48,49,50,51,52,53,54,55,56,57,97,98,99,100,101,102]:aw)=Ys from rfl,aju,aa,c,ae,ajv,aa];unfold app;rw[d,ae,dA,aL ai,aan s a]) (by
   unfold mH;dsimp only;rw[lA,aI ai,af,lh,DG])
  exact this
 rw[key,aa];dsimp only;rw[mM]
def amZ:∀n:Fin 16,nh ((n.val:Int),())=ab (u8<|hx n.val,()):=by decide +kernel
def K4{n:Nat}(h:n<16):nh ((n:Int),())=ab (u8<|hx n,()):=amZ ⟨n,h⟩
def afi:∀n:Fin 256,LJ .i64 (kF .i64 (n.val:Int)) 16=((n.val / 16:Nat):Int):=by decide +kernel
def afj:∀n:Fin 256,jK (kF .i64 (n.val:Int)) 16=((n.val % 16:Nat):Int):=by decide +kernel
def ajw(b:UInt8):LJ .i64 (kF .i64<|u8 b) 16=((b.toNat / 16:Nat):Int):=afi ⟨b.toNat,b.toNat_lt⟩
def ajx(b:UInt8):jK (kF .i64<|u8 b) 16=((b.toNat % 16:Nat):Int):=afj ⟨b.toNat,b.toNat_lt⟩
def Yt(s:aw)(b:s.length<=1048576):yb (s,())=ab (sg s,()):=by
 unfold yb;have key:Loop (oj (s,())) (((),0,()),[],())=ab (((),(s.length:Int),()),aC<|sg s,()):=by
  have:=dh (f:=oj (s,())) (r:=(((),(s.length:Int),()),aC<|sg s,())) s.length (λk=>(((),(k:Int),()),aC<|sg<|s.take k,())) (λk a=>by
   unfold oj;dsimp only;obtain⟨c,d⟩:=afh s b a (u8<|hx<|s[k].toNat / 16) (u8<|hx<|s[k].toNat % 16);have e:=s[k].toNat_lt;rw[show len s=(s.length:Int) from rfl,aP ai,ae,Dp s a,aa,ax aK,af,ajw,K4 ai,aa];dsimp only;rw[c,ae,aa,af,ajx,K4 ai,aa];dsimp only;unfold app;rw[d,ae,dA,aL ai,aan s a]) (by
   unfold oj;dsimp only;rw[show len s=(s.length:Int) from rfl,aI ai,af,lh,DG])
  exact this
 rw[key,aa];dsimp only;rw[mM]
def hv(c:UInt8):Int:=Lib.indexByte Ys c
def hvT:∀n:Fin 256,(hv (UInt8.ofNat n.val)=-1/\∀j:Fin 16,hx j.val≠UInt8.ofNat n.val)\/∃j:Fin 16,hv (UInt8.ofNat n.val)=(j.val:Int)/\hx j.val=UInt8.ofNat n.val/\∀i:Fin 16,i.val<j.val->hx i.val≠UInt8.ofNat n.val:=by decide +kernel
def M5(c:UInt8):(hv c=-1/\∀j:Nat,j<16->hx j≠c)\/∃j:Nat,j<16/\hv c=(j:Int)/\hx j=c/\∀i:Nat,i<j->hx i≠c:=by
 have h:=hvT ⟨c.toNat,c.toNat_lt⟩;have e:UInt8.ofNat c.toNat=c:=aY;simp only[e] at h;rcases h with ⟨a,b⟩|⟨j,a,b,f⟩
 .exact .inl ⟨a,λj g=>b ⟨j,g⟩⟩
 .exact .inr ⟨j.val,j.isLt,a,b,λi d=>f ⟨i,Nat.lt_trans d j.isLt⟩ d⟩
def aiV:∀n:Fin 16,hv (hx n.val)=(n.val:Int):=by decide +kernel
def Yu{a b:UInt8}(h:u8 a=u8 b):a=b:=by
 have:a.toNat=b.toNat:=by unfold u8 at h;omega
 exact Uh.1 this
def QQ(c:UInt8):p4 (u8 c,())=ab (hv c,()):=by
 unfold p4;have step:∀(r k:Nat),k<16->hx k≠c->eI (u8 c,()) (((r:Int),(k:Int),()),())=ab (.inl (((r:Int),((k+1:Nat):Int),()),())):=λr k a b=>by
  unfold eI;dsimp only;rw[aP ai,ae,K4 a,aa,ax (λe=>b (Yu e)),af,aL ai]
 rcases M5 c with ⟨d,g⟩|⟨j,h,d,g,i⟩
 .have:=dh (f:=eI (u8 c,())) (r:=(0,(((0:Nat):Int),((16:Nat):Int),()),())) 16 (λk=>((((0:Nat):Int),(k:Int),()),())) (λk a=>step 0 k a (g k a)) (by
   unfold eI;dsimp only;rw[aI aK,af])
  rw[show Loop (eI (u8 c,())) ((0,0,()),())=_ from this,aa];dsimp only;rw[show da 0 0=true from rfl,ae,d]
 .have:=dh (f:=eI (u8 c,())) (r:=(1,((j:Int),(j:Int),()),())) j (λk=>((((0:Nat):Int),(k:Int),()),())) (λk a=>step 0 k ai (i k a)) (by
   unfold eI;dsimp only;rw[aP ai,ae,K4 h,aa,aE (by rw[g]),ae])
  rw[show Loop (eI (u8 c,())) ((0,0,()),())=_ from this,aa];dsimp only;rw[show da 1 0=false from rfl,af,d]
def ou:aw->Option aw
 | []=>ab []
 | [_]=>ah
 | a::b::r=>if hv a<0\/hv b<0 then ah else(ou r).map (UInt8.ofNat (16*(hv a).toNat+(hv b).toNat)::·)
def ak4:∀(i j:Fin 16),kF .u8 (aH .i64 (jH .i64 16 (i.val:Int)) (j.val:Int))=u8 (UInt8.ofNat<|16*i.val+j.val):=by decide +kernel
def VJ(l:aw)(k:Nat)(h:k<=l.length):sub l (k:Int) (minus (len l) (k:Int))=l.drop k:=by
 unfold sub minus len;rw[pS,Hp (by rw[nV];omega)]
def ans:Option aw->aw×Bool×al
 | some l=>(l,true,())
 | none=>([],false,())
def Yv:∀(n:Nat) (s:aw),s.length<=n->s.length % 2=1->ou s=none:=by
 intro n;induction n using Nat.strongRecOn with
 | _ n d =>
   intro s c h
   match s,c,h with
   | [],_,h=>simp at h
   | [_],_,_=>rfl
   | a::b::r,c,h =>
     simp only[eU] at c h;simp only[ou];split
     .rfl
     .rw[d r.length ai r (cq _) ai];rfl
def xh{a b:Nat}(h:a+b<4611686018427387904):aH .i64 (a:Int) (b:Int)=((a+b:Nat):Int):=by
 rw[ff ai ai];omega
def Po(s:aw)(z:s.length<=1048576):∀(n i:Nat) (acc:List Int),s.length-i<=n->i<=s.length->(s.length-i) % 2=0->acc.length<=i ->
  ∃q,Loop (iR (s,())) ((([]:aw),false,(),(i:Int),()),acc,())=ab q/\(match ou (s.drop i) with
   | some l=>q.1=0/\q.2.2.1=acc++aC l
   | none=>q.1=1/\q.2.1.1=[]/\q.2.1.2.1=false):=by
 intro n;induction n using Nat.strongRecOn with
 | _ n t =>
   intro i acc A B C D;rw[aT];by_cases d:i<s.length
   .have o:i+1<s.length:=ai;have hd:s.drop i=s[i]::s[i+1]::s.drop (i+2):=by
     rw[zg d,zg o]
    rw[hd];generalize u:s[i]=a;generalize m:s[i+1]=b;have e0:iR (s,()) ((([]:aw),false,(),(i:Int),()),acc,())=(if hv a<0\/hv b<0 then ab (.inr (1,([],false,(),(i:Int),()),acc,()))
      else ab (.inl ((([]:aw),false,(),((i+2:Nat):Int),()),acc++[u8<|UInt8.ofNat<|16*(hv a).toNat+(hv b).toNat],()))):=by
     unfold iR;dsimp only;rw[aL ai,aP (by simp only[len];omega),ae,Dp s d,aa,u,QQ,aa,Dp s o,aa,m,QQ,aa];dsimp only;by_cases e:hv a<0
     .rw[aP e,aF,af,ae,aW (.inl e)]
     .rw[aI ai,az,ae];by_cases f:hv b<0
      .rw[aP f,ae,aW (.inr f)]
      .rw[aI ai,af,aQ ai];have v:kF .u8 (aH .i64 (jH .i64 16<|hv a)<|hv b)=u8 (UInt8.ofNat<|16*(hv a).toNat+(hv b).toNat):=by
        rcases M5 a with ⟨h,_⟩|⟨j,w,h,_⟩
        .omega
        rcases M5 b with ⟨p,_⟩|⟨k,x,p,_⟩
        .omega
        rw[h,p];exact ak4 ⟨j,w⟩ ⟨k,x⟩
       rw[v,ec (by simp only[plus,len,eU,gj];omega),ae,show aH .i64 (i:Int) 2=((i+2:Nat):Int) from xh (b:=2) ai];rfl
    rw[e0];by_cases c:hv a<0\/hv b<0
    .rw[aW c];refine⟨_,rfl,?_⟩;simp only[ou,aW c];exact⟨trivial,trivial,trivial⟩
    .rw[aQ c];obtain⟨q,y,g⟩:=t (s.length-(i+2)) ai (i+2) (acc++[u8<|UInt8.ofNat<|16*(hv a).toNat+(hv b).toNat]) (cq _) ai ai (by simp only[hY,eU,gj];omega);refine⟨q,y,?_⟩;simp only[ou,aQ c];cases r:ou (s.drop<|i+2) with
     | none=>rw[r] at g;exact g
     | some l =>
       rw[r] at g;refine⟨g.1,?_⟩;rw[g.2,uH];rfl
   .have:i=s.length:=ai;subst this;rw[LB];refine⟨(0,([],false,(),(s.length:Int),()),acc,()),?_,rfl,by simp[aC]⟩;unfold iR;dsimp only;rw[aL ai,aI (by simp only[len];omega),af];rfl
def Gv(s:aw)(c:s.length<=1048576):p5 (s,())=ab (ans<|ou s):=by
 unfold p5;dsimp only;rw[ax aK,af,show jK (len s) 2=((s.length % 2:Nat):Int) from xg s.length 2];rcases Nat.mod_two_eq_zero_or_one s.length with h|h
 .rw[h,show aS ((0:Nat):Int) 1=false from rfl,af];obtain⟨q,d,a⟩:=Po s c s.length 0 [] ai ai (by simpa using h) aY;rw[show Loop (iR (s,())) (([],false,(),0,()),[],())=ab q from d,aa];rw[zZ] at a;cases b:ou s with
  | none =>
    rw[b] at a;rw[a.1,show da 1 0=false from rfl,af,a.2.1,a.2.2];rfl
  | some l =>
    rw[b] at a;rw[a.1,show da 0 0=true from rfl,ae,a.2,BG,mM];rfl
 .rw[h,show aS ((1:Nat):Int) 1=true from rfl,ae,Yv s.length s (cq _) h];rfl
def QR:∀l:aw,ou (sg l)=ab l:=by
 intro l;induction l with
 | nil=>rfl
 | cons b r d =>
   have e:=b.toNat_lt;have a:=aiV ⟨b.toNat / 16,ai⟩;have c:=aiV ⟨b.toNat % 16,ai⟩;simp only at a c;simp only[sg,ou,a,c,d,LC];rw[aQ ai]
   congr 2
   rw[pS,pS,show 16*(b.toNat / 16)+b.toNat % 16=b.toNat by omega];simp
def Yw:aw:=[115,104,97,50,53,54,58]
def ky(s:aw):aw:=Yw++sg (bu<|sha s)
def Js(s:aw):(ky s).length=71:=by
 unfold ky;rw[hY,lY];simp[bu,qS,Yw]
def QS{a:Type}(l:List a)(n:Nat)(h:l.length=n):sub l 0 (minus n 0)=l:=by
 unfold sub minus;rw[show((0:Int).toNat)=0 from rfl,zZ,Hp ai]
def Yx(s:aw)(a:s.length<=1048576):oi (s,())=ab (ky s,()):=by
 unfold oi;dsimp only;rw[Yr s a,aa,aU aK aK aK,ae];dsimp only;rw[show sub (sha s) 0 (minus 32 0)=sha s from QS _ 32 (qS s),SR _ (by simp[bu,qS]),aa];dsimp only;rw[ec<|by simp only[plus,len,lY,bu,uI,qS,eU,gj];omega,ae];rfl
def HW(s:aw)(a:s.length<=1048576):tn (s,())=ab (ky s,()):=by
 unfold tn;dsimp only;rw[Yq s a,aa,aU aK aK aK,ae];dsimp only;rw[show sub (sha s) 0 (minus 32 0)=sha s from QS _ 32 (qS s),Yt _ (by simp[bu,qS]),aa];dsimp only;rw[ec<|by simp only[plus,len,lY,bu,uI,qS,eU,gj];omega,ae];rfl
def ahA(t:aw):Int:=if t.length=71/\t.take 7=Yw/\(ou<|t.drop 7).isSome=true then 0 else 2
def M6(l:aw)(k:Nat):sub l 0 (minus (k:Int) 0)=l.take k:=by
 unfold sub minus;rw[show((0:Int).toNat)=0 from rfl,zZ,Int.sub_zero,pS]
def Gw(t:aw)(b:t.length<=1048576):fE (t,())=ab (ahA t,()):=by
 unfold fE ahA;dsimp only;by_cases a:t.length=71
 .rw[aE<|by simp only[len];omega,aF,az,ae,aU aK aK (by simp only[len];omega),ae,aa,
   show sub t 0 (minus 7 0)=t.take 7 from M6 t 7,show([115,104,97,50,53,54,58]:aw)=Yw from rfl]
  by_cases h:t.take 7=Yw
  .rw[h,rW,aF,af,aU aK (by simp only[len];omega) (sN _),ae,
    show sub t 7 (minus (len t) 7)=t.drop 7 from VJ t 7 ai,Gv _ (by rw[nV];omega),aa]
   cases c:ou (t.drop 7) with
   | none =>
     rw[aQ aY];show ao (nt false) (ab (2,())) _=_
     rw[az,ae]
   | some l =>
     show ao (nt true) _ _=_
     rw[aF,af,aW ⟨a,rfl,rfl⟩]
  .rw[show bG (t.take 7) Yw=false from cL h,az,ae,aQ λe=>h e.2.1]
 .rw[ax<|by simp only[len];omega,az,aF,af,aa,ae,aQ λe=>a e.1]
def abX(s:aw):(ky s).take 7=Yw:=adO rfl
def abY(s:aw):(ky s).drop 7=sg (bu<|sha s):=List.drop_left' rfl
def Yy(s:aw):ahA (ky s)=0:=by
 have a:(ou<|(ky s).drop 7).isSome=true:=by
  rw[abY,QR];rfl
 exact aW ⟨Js s,abX s,a⟩
def am0(n k:Nat):UInt8:=UInt8.ofNat (48+n / 8 ^ k % 8)
def Yz(n:Nat):Nat->aw
 | 0=>[]
 | k+1=>am0 n k::Yz n k
set_option maxRecDepth 100000
def cX(p:UInt8->Bool)(s:aw):aw:=(s.reverse.dropWhile p).reverse
def xj{p:UInt8->Bool}(s:aw){x:UInt8}(h:p x=true):cX p (s++[x])=cX p s:=by
 simp[cX,Hr,h]
def yT{p:UInt8->Bool}(s:aw){x:UInt8}(h:p x=false):cX p (s++[x])=s++[x]:=by
 simp[cX,Hr,h]
def QT{p:UInt8->Bool}:∀(z s:aw),(∀x∈z,p x=true)->cX p (s++z)=cX p s:=by
 intro z;induction z with
 | nil=>intro s _;rw[zi]
 | cons x r a =>
   intro s h;rw[show s++x::r=(s++[x])++r by simp,a _ (λy b=>h y (vi _ b)),xj s (h x<|pL ..)]
def afk{p:UInt8->Bool}{s:aw}(h:∀x,s.getLast?=ab x->p x=false):cX p s=s:=by
 rcases ZE s with rfl|⟨r,x,rfl⟩
 .rfl
 .have:=h x aY;rw[adB];exact yT r this
def VK(r:aw)(x:UInt8)(a:r.length<=1048576):db .i64 (len<|r++[x]) 1=(r.length:Int)/\idx (r++[x]) (r.length:Int)=ab x:=by
 constructor
 .have:len (r++[x])=((r.length+1:Nat):Int):=by simp[len]
  rw[this,dL ai ai];omega
 .rw[vW];simp
def Pp(c:Int):∀(n:Nat) (s:aw),s.length<=n->s.length<=1048576->∀q:aw,Loop (fO (q,c,())) ((s,()),())=ab ((cX (λx=>aS (u8 x) c) s,()),()):=by
 intro n;induction n with
 | zero =>
   intro s h _ q;obtain rfl:s=[]:=zY.1 ai;rw[aT];rfl
 | succ n e =>
   intro s h a q;rcases ZE s with rfl|⟨r,x,rfl⟩
   .grind
   .rw[adB] at h a⊢;rw[hY] at h a;obtain⟨b,d⟩:=VK r x ai;rw[aT];have e0:fO (q,c,()) ((r++[x],()),())=if aS (u8 x) c=true then ab (.inl ((r,()),())) else ab (.inr ((r++[x],()),())):=by
     unfold fO;rw[aP<|by simp only[len,hY,eU,gj];omega,ae,b,d,aa,aa];cases hx:aS (u8 x) c with
     | true =>
       rw[ae,aU ai ai (by simp only[len,hY];omega),ae,dA,show sub _ 0 _=r from by rw[M6];simp,aW rfl]
     | false=>rw[af,lh,aQ aY]
    rw[e0];cases hx:aS (u8 x) c with
    | true =>
      rw[aW rfl,xj r hx]
      grind
    | false =>
      rw[aQ aY,yT r hx];rfl
def ye(s:aw)(c:Int)(a:s.length<=1048576):fx (s,c,())=ab (cX (λx=>aS (u8 x) c) s,()):=by
 unfold fx;rw[Pp c s.length s (cq _) a s,aa]
def cU(x:UInt8):Bool:=aS (u8 x) 0
def zD(x:UInt8):cU x=true↔x=0:=by
 unfold cU aS;rw[RG];constructor
 .intro h;exact Yu h
 .rintro rfl;rfl
def Pq(s:aw)(a:s.length<=1048576):eW (s,[0],())=ab (cX cU s,()):=by
 unfold eW;by_cases h:s=[]
 .subst h;rfl
 .rw[show bG s []=false from cL h,az,ae,show bG [0] []=false from rfl,af,show aS _ 1=true from rfl,ae,show idx ([0]:aw) 0=ab 0 from rfl,aa,aa,show aZ (u8 0) 128=true from rfl,ae,aa,
   ye s _ a,aa]
  rfl
def xk:List Bool:=((List.replicate 256 false).set 0 true).set 32 true
def Ax(x:UInt8):Bool:=xk.getD x.toNat false
def SS:xk.length=256:=by simp only[xk,adN,Qj]
def ajy:∀n:Fin 256,xk.getD n.val false=(decide (n.val=0)||decide (n.val=32)):=by decide +kernel
def VL(x:UInt8):Ax x=true↔x=0\/x=32:=by
 unfold Ax;rw[ajy ⟨x.toNat,x.toNat_lt⟩];simp only[BS,RG];constructor
 .rintro(h|h)
  .exact .inl (Uh.1 h)
  .exact .inr (Uh.1 h)
 .rintro(rfl|rfl)
  .grind
  .grind
def SU(x:UInt8):cI ((u8 x,()),xk,())=ab ((Ax x,()),xk,()):=by
 unfold cI;have hx:=x.toNat_lt;have e:u8 x=(x.toNat:Int):=rfl;dsimp only;rw[e,aM ai ai,ae,fL xk false (by show _<xk.length;rw[SS];omega),aa];rfl
def VM:eJ ([0,32],())=ab (xk,true,()):=by
 have key:Loop (cD ([0,32],())) ((false,0,()),List.replicate 256 false,())=ab (0,(false,2,()),xk,()):=by
  rw[aT,show cD _ _=ab _ from rfl];show Loop _ _=_
  rw[aT,show cD ([0,32],()) _=ab _ from rfl];show Loop _ _=_
  rw[aT];rfl
 exact(congrArg (ag · _) key).trans rfl
def VN:∀(n:Nat) (s:aw),s.length<=n->s.length<=1048576->Loop cJ ((s,()),xk,())=ab ((cX Ax s,()),xk,()):=by
 intro n;induction n with
 | zero =>
   intro s h _;obtain rfl:s=[]:=zY.1 ai;rw[aT];rfl
 | succ n d =>
   intro s h a;rcases ZE s with rfl|⟨r,x,rfl⟩
   .grind
   .rw[adB] at h a⊢;rw[hY] at h a;obtain⟨b,c⟩:=VK r x ai;rw[aT];have e0:cJ ((r++[x],()),xk,())=if Ax x=true then ab (.inl ((r,()),xk,())) else ab (.inr ((r++[x],()),xk,())):=by
     unfold cJ;rw[aP<|by simp only[len,hY,eU,gj];omega,ae,b,c,aa,SU,aa];cases hx:Ax x with
     | true =>
       rw[aF,af,aU ai ai (by simp only[len,hY];omega),ae,dA,show sub _ 0 _=r from by rw[M6];simp,aW rfl]
     | false=>rw[az,ae,lh,aQ aY]
    rw[e0];cases hx:Ax x with
    | true =>
      rw[aW rfl,xj r hx]
      grind
    | false =>
      rw[aQ aY,yT r hx];rfl
def Gx(s:aw)(a:s.length<=1048576):eW (s,[0,32],())=ab (cX Ax s,()):=by
 unfold eW;by_cases h:s=[]
 .subst h;rfl
 .rw[show bG s []=false from cL h,az,ae,show bG [0,32] []=false from rfl,af,show aS _ 1=false from rfl,af,aa,af,VM,aa];unfold ed;rw[VN s.length s (cq _) a];rfl
def Pr(c:Int):∀(n:Nat) (s:aw),s.length<=n->∀q:aw,Loop (gf (q,c,())) ((s,()),())=ab ((s.dropWhile<|λx=>aS (u8 x) c,()),()):=by
 intro n;induction n with
 | zero =>
   intro s h q;obtain rfl:s=[]:=zY.1 ai;rw[aT];rfl
 | succ n a =>
   intro s h q;cases s with
   | nil=>rw[aT];rfl
   | cons x r =>
     rw[aT];have e0:gf (q,c,()) ((x::r,()),())=if aS (u8 x) c=true then ab (.inl ((r,()),())) else ab (.inr ((x::r,()),())):=by
      unfold gf;rw[aP<|by simp only[len,eU];omega,ae,show idx _ 0=ab x from rfl,aa,aa];cases hx:aS (u8 x) c with
      | true =>
        rw[ae,aU aK (by simp only[len,eU];omega) (sN _),ae,dA,show sub _ 1 (minus _ 1)=r from VJ _ 1 aY,aW rfl]
      | false=>rw[af,lh,aQ aY]
     rw[e0,Hr]
     grind
def HX(s:aw)(c:Int):iA (s,c,())=ab (s.dropWhile<|λx=>aS (u8 x) c,()):=by
 unfold iA;rw[Pr c s.length s (cq _) s,aa]
def HY{p:UInt8->Bool}{l:aw}{x:UInt8}(h:x∈l.takeWhile p):p x=true:=vR.1 List.all_takeWhile x h
def VO(s:aw)(a:s.length<=1048576):jf (s,[0],())=ab ((cX cU s).dropWhile cU,()):=by
 unfold jf;by_cases h:s=[]
 .subst h;rfl
 .rw[show bG s []=false from cL h,az,ae,show bG [0] []=false from rfl,af,show aS _ 1=true from rfl,ae,show idx ([0]:aw) 0=ab 0 from rfl,aa,aa,show aZ (u8 0) 128=true from rfl,ae,aa,
   ye s _ a,aa,aa,HX,aa]
  rfl
def xn(s:aw):(cX cU s).dropWhile cU=[]↔∀x∈s,x=0:=by
 constructor
 .intro h;have e:∀x∈cX cU s,cU x=true:=by
   intro x a;have:=BP (p:=cU) (l:=cX cU s);rw[h,zi] at this;rw[<-this] at a;exact HY a
  have b:cX cU s=[]:=by
   rcases ZE _ with b|⟨r,x,b⟩
   .exact b
   .exfalso;have a:=e x (by rw[b];simp);unfold cX at b;have c:(s.reverse.dropWhile cU)=x::r.reverse:=by
     grind
    have:=List.head?_dropWhile_not cU s.reverse
    grind
  intro x a;have c:s.reverse.dropWhile cU=[]:=by
   have:=congrArg List.reverse b;simpa [cX] using this
  have:=BP (p:=cU) (l:=s.reverse);rw[c,zi] at this;have d:=Uf.2 a;rw[<-this] at d;exact(zD x).1 (HY d)
 .intro h;have:cX cU s=[]:=by
   have:=QT s [] (λx a=>(zD x).2 (h x a));exact this
  simp_all
def M7(b:aw)(c:b.length<=1048576):ua (b,())=ab (decide (b.length=512/\∀x∈b,x=0),()):=by
 unfold ua;by_cases h:b.length=512
 .rw[aE<|by simp only[len];omega,ae,VO b c,aa,aa]
  congr 2
  unfold bG;by_cases a:∀x∈b,x=0
  .rw[dE<|(xn b).2 a,dE ⟨h,a⟩]
  .rw[cL<|λe=>a ((xn b).1 e),cL λe=>a e.2]
 .rw[ax<|by simp only[len];omega,af,aa,cL λe=>h e.1]
end Go.Ge
namespace Go.Ge
variable [Lp]
def aiW:∀d:Fin 8,kF .i64 (db .u8 ((48+d.val:Nat):Int) 48)=(d.val:Int):=by decide +kernel
def am1{v d:Nat}(a:d<8)(g:8*v+d<9223372036854775808):zX .i64 (nW .i64 (v:Int) 3) (kF .i64<|db .u8 ((48+d:Nat):Int) 48)=((8*v+d:Nat):Int):=by
 rw[aiW ⟨d,a⟩];have b:nW .i64 (v:Int) 3=((8*v:Nat):Int):=by
  unfold nW;rw[show min (Int.toNat 3) IntKind.i64.bits=3 from rfl,show(v:Int)*2 ^ 3=((8*v:Nat):Int) by omega];exact Ao ai ai
 rw[b];unfold zX;have e:(BitVec.ofInt IntKind.i64.bits ((8*v:Nat):Int) ||| BitVec.ofInt IntKind.i64.bits (d:Int)).toNat=8*v+d:=by
  rw[BitVec.toNat_or];have c:(BitVec.ofInt IntKind.i64.bits ((8*v:Nat):Int)).toNat=2 ^ 3*v:=by
   rw[adG,show(IntKind.i64.bits)=64 from rfl];omega
  have f:(BitVec.ofInt IntKind.i64.bits (d:Int)).toNat=d:=by
   rw[adG,show(IntKind.i64.bits)=64 from rfl];omega
  rw[c,f,<-Nat.two_pow_add_eq_or_of_lt a]
 rw[e];exact Ao ai ai
def zE(s:aw):Prop:=∀x∈s,x≠0
instance (s:aw):Decidable (zE s):=inferInstanceAs (Decidable (∀x∈s,x≠0))
def HZ:∀s:aw,decide (Lib.indexByte s 0<0)=decide (zE s):=by
 intro s;induction s with
 | nil=>rfl
 | cons b r a =>
   unfold Lib.indexByte;by_cases d:b=0
   .subst d;rw[aW<|by rfl,cL aK,cL λh=>h 0 (pL ..) rfl]
   .rw[aQ<|by simpa using d];by_cases c:zE r
    .rw[dE c] at a;have e:Lib.indexByte r 0<0:=iy a;have g:=(Bk 0 r).1;have f:Lib.indexByte r 0=-1:=ai;rw[f,aW (by rfl),dE aK,dE];intro x hx;rcases ld.1 hx with rfl|hx
     .exact d
     .exact c x hx
    .rw[cL c] at a;have e:¬Lib.indexByte r 0<0:=adH a;rw[aQ<|by simp only[Un];omega,cL ai,cL];intro h;exact c λx hx=>h x (vi _ hx)
def Gy(s:aw):dx (s,0,())=ab (Lib.indexByte s 0,()):=rfl
def Gz(s:aw)(a:s.length<=1048576):kv (s,())=ab (cX cU s,decide<|zE<|cX cU s,()):=by
 unfold kv;dsimp only;rw[Pq s a,aa];dsimp only;rw[Gy,aa];unfold aZ;dsimp only;rw[HZ]
abbrev Hd:=aw×Int×Int×Int×Int×Int×Int×aw×al
def clr(s:aw)(a:Int):Prop:=s≠[]/\(s.length:Int)<=a/\zE s
instance (s:aw) (a:Int):Decidable (clr s a):=inferInstanceAs (Decidable<|_/\_/\_)
def SV(n b:Int):Prop:=0<=n/\n<b
instance (n b:Int):Decidable (SV n b):=inferInstanceAs (Decidable<|_/\_)
def kindOk(h:Hd):Prop:=(h.2.1=1/\h.2.2.2.2.2.2.2.1=[])\/(h.2.1=2/\h.2.2.2.2.2.2.2.1=[]/\h.2.2.2.2.2.1=0)\/(h.2.1=3/\clr h.2.2.2.2.2.2.2.1 100/\h.2.2.2.2.2.1=0)
instance (h:Hd):Decidable (kindOk h):=inferInstanceAs (Decidable<|_\/_\/_)
def Kn(h:Hd)(a:Int):Prop:=SV h.2.2.1 2097152/\SV h.2.2.2.1 2097152/\SV h.2.2.2.2.1 2097152/\SV h.2.2.2.2.2.1 8589934592/\SV h.2.2.2.2.2.2.1 8589934592/\clr h.1 a/\kindOk h
instance (h:Hd) (a:Int):Decidable (Kn h a):=inferInstanceAs (Decidable<|_/\_/\_/\_/\_/\_/\_)
def E2(n b:Int):lU (n,b,())=ab (decide<|SV n b,()):=by
 unfold lU;dsimp only;by_cases h:0<=n
 .rw[bO h,ae];unfold aZ SV
  congr 2
  simp[h]
 .rw[ea ai,af,cL λe=>h e.1]
def QU(s:aw)(m:Int):om (s,m,())=ab (decide<|clr s m,()):=by
 unfold om;dsimp only;by_cases h:s=[]
 .subst h;rw[show bG [] []=true from rfl,aF,af,af,aa,cL λe=>e.1 rfl]
 .rw[show bG s []=false from cL h,az,ae];by_cases a:(s.length:Int)<=m
  .rw[bO<|by simp only[len];exact a,ae,Gy,aa,aa];unfold aZ;dsimp only;rw[HZ]
   congr 2
   unfold clr;simp[h,a]
  .rw[ea<|by simp only[len];omega,af,aa,cL λe=>a e.2.1]
def VP(h:Hd)(m:Int):rk (h,m,())=ab (decide<|Kn h m,()):=by
 unfold rk;dsimp only;by_cases d:SV h.2.2.1 2097152
 case neg=>rw[E2,aa,cL d,af,aa,af,aa,af,aa,af,aa,az,aF,af,aa,ae,cL λe=>d e.1]
 rw[E2,aa,dE d,ae,E2,aa,aa];by_cases f:SV h.2.2.2.1 2097152
 case neg=>rw[cL f,af,aa,af,aa,af,aa,az,aF,af,aa,ae,cL λe=>f e.2.1]
 rw[dE f,ae,E2,aa,aa];by_cases g:SV h.2.2.2.2.1 2097152
 case neg=>rw[cL g,af,aa,af,aa,az,aF,af,aa,ae,cL λe=>g e.2.2.1]
 rw[dE g,ae,E2,aa,aa];by_cases i:SV h.2.2.2.2.2.1 8589934592
 case neg=>rw[cL i,af,aa,az,aF,af,aa,ae,cL λe=>i e.2.2.2.1]
 rw[dE i,ae,E2,aa,aa];by_cases j:SV h.2.2.2.2.2.2.1 8589934592
 case neg=>rw[cL j,az,aF,af,aa,ae,cL λe=>j e.2.2.2.2.1]
 rw[dE j,aF,az,ae,QU,aa,aa];by_cases k:clr h.1 m
 case neg=>rw[cL k,az,ae,cL λe=>k e.2.2.2.2.2.1]
 rw[dE k,aF,af];have n:decide (Kn h m)=decide (kindOk h):=hH.2 ⟨λe=>e.2.2.2.2.2.2,λe=>⟨d,f,g,i,j,k,e⟩⟩;rw[n];by_cases l:h.2.1=1
 .rw[l,oe,ae];unfold bG;rw[show decide (h.2.2.2.2.2.2.2.1=[])=decide (kindOk h) from hH.2 (by unfold kindOk;simp[l])]
 .rw[ax l,af];by_cases b:h.2.1=2
  .rw[b,oe,ae];unfold bG aS;by_cases a:h.2.2.2.2.2.2.2.1=[]
   .rw[dE a,ae,show decide (h.2.2.2.2.2.1=0)=decide (kindOk h) from hH.2 (by unfold kindOk;simp[b,a])]
   .rw[cL a,af,show decide (kindOk h)=false from cL (by unfold kindOk;simp[b,a])]
  .rw[ax b,af];by_cases c:h.2.1=3
   .rw[c,oe,ae,QU,aa];dsimp only;unfold aS;by_cases a:clr h.2.2.2.2.2.2.2.1 100
    .rw[dE a,ae,show decide (h.2.2.2.2.2.1=0)=decide (kindOk h) from hH.2 (by unfold kindOk;simp[c,a])]
    .rw[cL a,af,show decide (kindOk h)=false from cL (by unfold kindOk;simp[c,a])]
   .rw[ax c,af,show decide (kindOk h)=false from cL (by unfold kindOk;simp[l,b,c])]
end Go.Ge
