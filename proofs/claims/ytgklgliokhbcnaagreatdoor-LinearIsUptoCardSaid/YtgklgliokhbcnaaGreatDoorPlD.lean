import Derived.Test.YtgklgliokhbcnaaGreatDoorPlC
set_option linter.unusedSectionVars false
set_option linter.unusedVariables false
set_option linter.unusedSimpArgs false
set_option linter.defProp false
open Option renaming some->aa,none->af
open Go.IntKind (i64)
namespace Go.Ge
variable [Lp]
set_option maxRecDepth 100000
def allowed:Tx:=[97,98,99,100,101,102,103,104,105,106,107,108,109,110,111,112,113,114,115,116,117,118,119,120,121,122,48,49,50,51,52,53,54,55,56,57,46,95,45]
def TN(c:UInt8):Bool:=allowed.contains c
def iF(s:Tx):Bool:=decide (1<=s.length)&&decide (s.length<=32)&&s.all TN
def aaY(a:Tx)(b:List Bool):List Bool:=(a.zipIdx).foldl (λt p=>kO t (u8 p.1) true) b
def FW:List Bool:=List.replicate 256 false
def al6 c:u8 c<256:=by unfold u8;have:=c.toNat_lt;omega
def al7 c:0<=u8 c:=by unfold u8;omega
def Rp c:within (u8 c) 256=true:=aG (al7 c) (al6 c)
def afN{t}(h:t.length=256) c:idx t (u8 c)=aa (t.getD c.toNat false):=n7 t false rfl (by have:=c.toNat_lt;omega)
def P9(a:Tx)(j:a.length<=4294967296)(k:∀c∈a,c<128):eu (a,())=aa (aaY a FW,true,()):=by
 unfold eu;obtain⟨t,o,l,m⟩:=qe (f:=eH (a,())) a (λt i=>((false,i,()),t,())) (λt i x=>kO t _ true) _ (λt _=>t.length=256) j
  (λt i x h n b e=>by (refine⟨?_,by simp[kO,e]⟩;unfold eH;have d:u8 x<128:=by unfold u8;have:x.toNat<128:=(k x<|bc.2 ⟨i,h⟩);omega);rw[al n,ai,ao h,ab,cO d,ag,Rp,ai,afN e,ab,ab,ab,b])
  (λt e=>by unfold eH;rw[aq];rfl) FW (by simp[FW])
 have g:Loop _ _=_:=l;rw[show(List.replicate 256 false)=FW from rfl,g,m];rfl
def akk c:(aaY allowed FW).getD c.toNat false=TN c:=by
 have key:∀n:Fin 256,(aaY allowed FW).getD n.val false=TN (UInt8.ofNat n.val):=by decide +kernel
 have:=key ⟨c.toNat,c.toNat_lt⟩;simp_all
def aaZ:(aaY allowed FW).length=256:=by decide +kernel
def NX{t}(a:t.length=256) c:cS ((u8 c,()),t,())=aa ((t.getD c.toNat false,()),t,()):=by unfold cS;rw[Rp,ai,afN a,ab]
def TO{t}(a:t.length=256):∀(s:Tx),gX ((s,()),t,())=aa ((s.dropWhile<|λc=>t.getD c.toNat false,()),t,()):=by
 have key:∀s,Loop fF ((s,()),t,())=aa ((s.dropWhile<|λc=>t.getD c.toNat false,()),t,()):=by intro s;induction s with|nil =>rw[aN];rfl|cons c r b =>rw[aN];unfold fF;have hi:idx (c::r) 0=aa c:=rfl;rw[HB,hi,ab,NX a,ab,UT];cases d:t.getD c.toNat false with|false=>rfl|true =>(rw[ aM aF (by simp[len];omega) (uh _)];have hs:sub (c::r) 1 (minus (len (c::r)) 1)=r:=by have:=jB (c::r) 1 aT;grind);rw[hs];show Loop fF _=_;grind
 intro s;unfold gX;rw[key,ab]
def afO{α}{l:List α}(h:l.length<=4294967296):cG .i64 (len l) 1=(l.length:Int)-1:=du (by simp only[len];omega) (by simp only[len];omega)
def Qa{t}(b:t.length=256):∀n (s:Tx),s.length=n->n<=4294967296->dT ((s,()),t,())=aa (((s.reverse.dropWhile λc=>t.getD c.toNat false).reverse,()),t,()):=by
 have key:∀n s,s.length=n->n<=4294967296->Loop cT ((s,()),t,())=aa (((s.reverse.dropWhile λc=>t.getD c.toNat false).reverse,()),t,()):=by intro n;induction n with|zero =>(intro s hs _;obtain rfl:=zI.1 hs;rw[aN];rfl)|succ n d =>(intro s hs hn;obtain⟨r,c,rfl⟩:∃r c,s=r++[c]:=⟨s.dropLast,s.getLast (by intro e;rw[e] at hs;simp at hs),(ajb _).symm⟩;rw[aN];unfold cT;have hlen:cG .i64 (len<|r++[c]) 1=r.length:=by rw[afO ah];simp);(have hi:idx (r++[c]) r.length=aa c:=by rw[s6];simp);rw[HB,show decide _=true from aT,hlen,hi,ab,NX b,ab,List.reverse_append,List.reverse_singleton,List.singleton_append,UT];cases f:t.getD c.toNat false with|false=>simp[nt,ak,cr]|true =>(rw[ (aM aF ah<|by simp only[len,iU];omega)];have a:sub (r++[c]) 0 (minus r.length 0)=r:=by rw[gl];simp);rw[a];show Loop cT _=_;grind
 intro n s hs hn;unfold dT;rw[key n s hs hn,ab]
def dropWhile_nil{b:Type}{p}{l:List b}:l.dropWhile p=[]↔l.all p=true:=by induction l with|nil=>simp|cons a r c =>rw[UT];grind
def afP{p}(s:Tx):((s.reverse.dropWhile p).reverse.dropWhile p=[])↔s.all p=true:=by
 constructor
 .intro h;rw[dropWhile_nil] at h;have a:s.reverse.all p=true:=by have e:s.reverse.takeWhile p++s.reverse.dropWhile p=s.reverse:=Cm;rw[<-e,List.all_append];simp_all
  grind
 intro h;have:s.reverse.dropWhile p=[]:=by rw[dropWhile_nil,List.all_reverse];exact h
 simp_all
def HH(s:Tx):nu (s,())=aa (iF s,()):=by
 unfold nu iF;have d:cl 1 (len s)=decide (1<=s.length):=by unfold len;apply gG.2;omega
 have f:cl (len s) 32=decide (s.length<=32):=by unfold len;apply gG.2;omega
 rw[d,f];by_cases a:1<=s.length
 {rw[cW a,ai];by_cases c:s.length<=32;{(rw[cW c,ai,show([97,98,99,100,101,102,103,104,105,106,107,108,109,110,111,112,113,114,115,116,117,118,119,120,121,122,48,49,50,51,52,53,54,55,56,57,46,95,45])=allowed from rfl];unfold jb;have hs:s≠[]:=by intro e;rw[e] at a;simp at a);rw[aY hs,aE,ai,aY (show allowed≠[] by decide),ag,show aD _ 1=false from rfl,ag,ab,P9 allowed aF aF,ab, Qa aaZ s.length s rfl ah,ab,TO aaZ,(funext akk)];show aa _=_;have:=afP (p:=TN) s;by_cases b:s.all TN=true;{rw[ch<|this.2 b,b];rfl};rw[aY λe=>b (this.1 e)];grind};rw[cf c,ag,ab];simp};rw[cf a,ag,ag,ab];simp
def Wp(c:UInt8):Bool:=ak (ak (ak (ak (ak (nt<|aL (u8 c) 97) (aL 122<|u8 c) true) (ak (nt<|aL (u8 c) 48) (aL 57<|u8 c) true) false) (nt<|aD (u8 c) 46) false) (nt<|aD (u8 c) 95) false) (nt<|aD (u8 c) 45) false
def Wq c:Wp c=!TN c:=by
 have key:∀n:Fin 256,Wp (UInt8.ofNat n.val)=!TN (UInt8.ofNat n.val):=by decide +kernel
 have:=key ⟨c.toNat,c.toNat_lt⟩;simp_all
def B7(s:Tx)(c:s.length<=4294967296):oZ (s,())=aa (iF s,()):=by
 unfold oZ iF;rcases eE (f:=om (s,())) s (λi=>((false,i,()),())) (λ_ x=>Wp x) _ _ c (λi x a b d=>by unfold om;rw[al b,ao a,d];show ak (Wp x) _ _=_;cases Wp x<;>rfl) (by unfold om;rw[aq];rfl) with ⟨i,x,a,e,k,h⟩|⟨hn,h⟩
 .rw[h];have:s.all TN=false:=by rw[Wq] at e;grind
  rw[this,aey];rfl
 rw[h];have:s.all TN=true:=by rw[w8];intro x a;obtain⟨i,b⟩:=bc.1 a;have:=hn i x b;rw[Wq] at this;grind
 rw[this,aeC];have g:cl 1 (len s)=decide (1<=s.length):=by unfold len;apply gG.2;omega
 have j:cl (len s) 32=decide (s.length<=32):=by unfold len;apply gG.2;omega
 rw[g,j];cases decide (1<=s.length)<;>rfl
end Go.Ge
namespace Go.Ge
variable [Lp]
open Go.Lib
def Zi(l:List Tx):(vZ l).Pairwise (λa b=>a<=b):=by have:=List.pairwise_mergeSort (le:=λx y=>decide (x<=y)) (λa b c h k=>by simp at h k⊢;exact List.le_trans h k) (λa b=>by simp;exact List.le_total a b) l;unfold vZ;grind
def Wr(l:List Tx):(vZ l).Nodup↔l.Nodup:=(List.mergeSort_perm l _).nodup_iff
def Ws{m:List Tx}{j} a:keeps m.toArray j=decide (j=0\/m[j]≠m[j-1]'ah):=by unfold keeps;grind
def TP(m:List Tx)(o:m.Pairwise λa b=>a<=b):(compact m).length<m.length↔¬m.Nodup:=by
 unfold compact compactUpTo;rw[zK];have:((List.range m.length).filter<|keeps m.toArray).length<m.length↔∃x,x∈List.range m.length/\¬keeps m.toArray x=true:=by have:=List.length_filter_lt_length_iff_exists (p:=keeps m.toArray) (l:=List.range m.length);grind
 rw[this];constructor
 {rintro⟨j,c,f⟩ hn;have e:=Mm.1 c;rw[Ws e] at f;simp at f;have q:=Ss.1 hn (j-1) j ah e ah;grind};intro hn;by_cases h:∃i j,∃(d:i<j) (c:j<m.length),m[i]'ah=m[j];{(obtain⟨i,j,d,c,g⟩:=h;refine⟨j,Mm.2 c,?_⟩;rw[Ws c];have le:=λa b k n=>Ss.1 o a b ah n k;have k:m[j-1]'ah<=m[j]:=le _ j ah c;have n:m[j]<=m[j-1]'ah:=by grind);grind};exfalso;apply hn;refine Ss.2 λi j r c d g=>h ⟨i,j,d,c,g⟩
def zy(l:List Tx):Bool:=l.all iF&&decide l.Nodup&&decide (l.length<=4)
def fc(l:List Tx):Int:=if zy l=true then 0 else 1
def wi(l:List Tx)(b:l.length<=4294967296):gB (l,())=aa (fc l,()):=by
 unfold gB;have d:nt (aL 4<|len l)=decide (l.length<=4):=by unfold nt aL len;grind
 have e:aL (len<|compact<|vZ l) (len l)=!decide l.Nodup:=by have h:=TP _ (Zi l);rw[Ri,Wr] at h;unfold aL len;grind
 have hs:fm l ()=aa (vZ l):=by unfold fm;rw[cK b];rfl
 rw[cK b,hs];rcases eE (f:=pP (l,())) l (λi=>((0,i,()),())) (λ_ x=>!iF x) (λi x=>(1,(i,i,()),())) _ b (λi x a c g=>by unfold pP;rw[al c,ai,ao a,ab,HH,ab,afK,di,g];by_cases h:iF x=true<;>simp[h]) (by unfold pP;rw[aq];rfl) with ⟨i,x,a,k,m,h⟩|⟨hn,h⟩
 .rw[h];have:l.all iF=false:=by grind
  have j:fc l=1:=by unfold fc zy;rw[this];rfl
  rw[j];show ak (ak _ _ true) _ _=_;cases nt _<;>rfl
 rw[h];have:l.all iF=true:=by rw[w8];intro x a;obtain⟨i,c⟩:=bc.1 a;grind
 show ak (ak _ _ true) _ _=_;rw[d,e];unfold fc zy;rw[this];cases decide l.Nodup<;>cases decide (l.length<=4)<;>rfl
def TQ(l:List Tx)(C:l.length<=4294967296)(D:∀x∈l,x.length<=4294967296):vw (l,())=aa (zy l,()):=by
 unfold vw;have inner:∀r (i:Nat) x,l[i]?=aa x->(∃j y,j<i/\l[j]?=aa y/\y=x/\∃q,Loop (iS (l,()) ((r,(i:Int),()),())) ((r,(0:Int),()),())=aa (1,(false,q),()))\/((∀j y,j<i->l[j]?=aa y->y≠x)/\∃q,Loop (iS (l,()) ((r,(i:Int),()),())) ((r,0,()),())=aa (0,(r,q),())):=by
  intro r i x a;have hi:=av a;have g:min i l.length=i:=ah;rcases se (f:=iS (l,()) ((r,i,()),())) l i (λj=>((r,j,()),())) (λ_ y=>decide (y=x)) (λj y=>(1,(false,j,()),())) _ ah (λj y m p b s=>by
   unfold iS;rw[aH<|show(j:Int)<i by omega,ai,ao m,ab,ao a,ab,di,s];by_cases h:y=x<;>simp[bg,h]) (by
   unfold iS;rw[g,aB (uh _),ag]) with ⟨j,y,b,m,e,_,h⟩|⟨hn,h⟩
  .grind
  .grind
 let bad:=λi x=>!iF x||(l.take i).contains x
 have c:∀i x,l[i]?=aa x->((l.take i).contains x=true↔∃j y,j<i/\l[j]?=aa y/\y=x):=by
  intro i x a;simp only[List.contains_eq_mem,A6];rw[bc];constructor
  .grind
  .rintro⟨j,y,b,m,rfl⟩;exact⟨j,by rw[kn,aQ b];exact m⟩
 rcases eE (f:=pQ (l,())) l (λi=>((false,i,()),())) bad (λi x=>(1,(false,i,()),())) _ C (λi x a hi s=>by
  unfold pQ;rw[al hi,ao a,ab,B7 x (D x<|bc.2 ⟨i,a⟩),ab];cases B:iF x with
  | false=>simp[bad,B,nt,ak]
  | true =>
    rcases inner false i x a with ⟨j,y,n,o,t,q,h⟩|⟨hn,q,h⟩
    .have d:=(c i x a).2 ⟨j,y,n,o,t⟩;rw[h];show aa _=_
     grind
    .have d:(l.take i).contains x=false:=by
      grind
     rw[h,s];simp only[bad,B,d];rfl) (by unfold pQ;rw[aq];rfl) with ⟨i,x,a,e,p,h⟩|⟨hn,h⟩
 .rw[h];have:zy l=false:=by
   unfold zy;simp only[bad,Mk] at e;rcases e with e|e
   .grind
   .have:¬l.Nodup:=λu=>by
     obtain⟨j,y,n,o,t⟩:=(c i x a).1 e;obtain⟨v,k⟩:=iQ.1 a;obtain⟨w,z⟩:=iQ.1 o;exact Ss.1 u j i w v n (by rw[z,k,t])
    grind
  rw[this];rfl
 .rw[h];have n:l.all iF=true:=by
   rw[w8];intro x A;obtain⟨i,hi⟩:=bc.1 A
   grind
  have o:l.Nodup:=by
   refine Ss.2 λj i p hi b E=>?_;have F:=(c i l[i]<|ft hi).2 ⟨j,l[j],b,ft p,E⟩
   grind
  show aa _=_
  unfold zy;have:cl (len l) 4=decide (l.length<=4):=by unfold len;apply gG.2;omega
  grind
def pd(l:List Tx)(a:l.length<=4294967296)(b:∀x∈l,x.length<=4294967296):gC (l,())=aa (fc l,()):=by unfold gC;dsimp only;rw[TQ l a b,ab];unfold fc;cases zy l<;>rfl
end Go.Ge
namespace Go.Ge
variable [Lp]
def Qb(a:List Tx)(b:Int)(i:Nat)(x:Nm):Bool:=decide ((i:Int)≠b)&&x.2.1.any (λs=>decide (s∈a))
def TR(l:List Nm)(a:List Tx)(b:Int):Bool:=l.zipIdx.any λp=>Qb a b p.2 p.1
def qn(l:List Nm)(id:Tx)(a:List Tx):Int:=if fc a≠0 then fc a else if TR l a (HG l id)=true then 8 else 0
def I7{l given own}:TR l given own=true↔∃i x,l[i]?=aa x/\Qb given own i x=true:=by
 unfold TR;rw[JP];constructor
 {rintro⟨p,a,h⟩;obtain⟨x,i⟩:=p;exact⟨i,x,ai9.1 a,h⟩};rintro⟨i,x,b,h⟩;exact⟨(x,i),ai9.2 b,h⟩
def NY{l given own}(h:∀i x,l[i]?=aa x->Qb given own i x=false):TR l given own=false:=by rw[<-Bool.not_eq_true,I7];rintro⟨i,x,a,k⟩;rw[h i x a] at k;cases k
def tY l (id:Tx) (given:List Tx) (e:Small l) (n:given.length<=4294967296):iz (l,id,given,())=aa (qn l id given,()):=by
 unfold iz qn;rw[wi given n,ab];by_cases g:fc given=0
 .rw[g,NW l id e.1,ab];generalize HG l id=own;have inner:∀y,y.2.1.length<=4294967296->(y.2.1.any (λs=>decide (s∈given))=true/\∃(k:Nat) (q:Int×aj),Loop (ke y) ((0,0,()),given,())=aa (1,((k:Int),q),given,())) \/
    (y.2.1.any (λs=>decide (s∈given))=false/\∃q,Loop (ke y) ((0,0,()),given,())=aa (0,q,given,())):=by
   intro y o;rcases eE (f:=ke y) y.2.1 (λi=>((0,i,()),given,())) (λ_ s=>decide (s∈given)) (λi s=>(1,(i,i,()),given,())) _ o (λi s hs a b=>by unfold ke;rw[al a,ai,ao hs,ab,C7 given s n,ab,di,b];by_cases h:s∈given<;>simp[h]) (by unfold ke;rw[aq];rfl) with ⟨i,s,hs,j,p,h⟩|⟨hn,h⟩
   .exact .inl ⟨JP.2 ⟨s,bc.2 ⟨i,hs⟩,j⟩,i,_,h⟩
   .refine .inr ⟨?_,_,h⟩;rw[List.any_eq_false];intro s hs;obtain⟨i,a⟩:=bc.1 hs;rw[hn i s a];simp
  rcases eE (f:=rh (l,_) (own,())) l (λi=>((0,i,()),given,())) (Qb given own) (λi x=>(1,(8,i,()),given,())) _ e.1 (λi x c a b=>by unfold rh;rw[al a,ai,ao c,ab];unfold Qb;by_cases d:i=own;{rw[au d,aW,ag,b];simp[d]};rw[ar d,aE,ai];rcases inner x (e.2 x<|bc.2 ⟨i,c⟩) with ⟨m,k,q,h⟩|⟨m,q,h⟩;{rw[h,ab,m];dsimp only;rw[hJ,ag,bA ah,ai];simp[d]};rw[h,ab,m,cV,ai,show cl 0 (-1)=false from rfl,ag,b];simp) (by unfold rh;rw[aq];rfl) with ⟨i,x,c,j,p,h⟩|⟨hn,h⟩
  {rw[h,aQ (I7.2 ⟨i,x,c,j⟩)];rfl};rw[h,NY hn];rfl
 rw[ar g,aE,ai,aQ g]
def xF(l:List Nm)(id:Tx)(a:List Tx)(j:Small l)(o:a.length<=4294967296)(k:∀x∈a,x.length<=4294967296):mK (l,id,a,())=aa (qn l id a,()):=by
 unfold mK qn;dsimp only;rw[pd a o k,ab];dsimp only;by_cases m:fc a=0
 .rw[m,au rfl,aW,ag,NV l id j.1,ab,aK aT];generalize HG l id=own;have inner:∀(i:Nat) (x:Nm),l[i]?=aa x->(Qb a own i x=true/\∃q,Loop (kf (l,id,a,()) (own,()) (((0:Int),(i:Int),()),())) (((0:Int),(0:Int),()),())=aa (1,((8:Int),q),())) \/
    (Qb a own i x=false/\∃q,Loop (kf (l,id,a,()) (own,()) (((0:Int),(i:Int),()),())) (((0:Int),(0:Int),()),())=aa (0,((0:Int),q),())):=by
   intro i x b;rcases eE (f:=kf (l,id,a,()) (own,()) (((0:Int),(i:Int),()),())) a (λn=>(((0:Int),n,()),())) (λ_ s=>decide ((i:Int)≠own)&&decide (s∈x.2.1)) (λn s=>(1,((8:Int),(n:Int),()),())) (0,((0:Int),len a,()),()) o (λn s hs hn e=>by unfold kf;dsimp only;rw[al hn,ai];by_cases g:(i:Int)=own;{rw[au g,aW,ag,e];simp[g]};rw[ar g,aE,ai,ao b,ab,ao hs,ab,P8 _ _ (j.2 x<|bc.2 ⟨i,b⟩),ab,di,e];by_cases h:s∈x.2.1<;>simp[h,g]) (by unfold kf;dsimp only;rw[aq,ag];rfl) with ⟨n,s,hs,c,p,h⟩|⟨hn,h⟩
   .refine .inl ⟨?_,_,h⟩;simp only[gO,A6] at c;unfold Qb;simp only[gO,A6,JP];exact⟨c.1,s,c.2,bc.2 ⟨n,hs⟩⟩
   .refine .inr ⟨?_,_,h⟩;rw[<-Bool.not_eq_true];unfold Qb;simp only[gO,A6,JP];rintro⟨d,s,r,t⟩;obtain⟨n,hs⟩:=bc.1 t;have:=hn n s hs;rw[cW d,cW r] at this;cases this
  rcases eE (f:=rj (l,id,a,()) (own,())) l (λi=>(((0:Int),i,()),())) (Qb a own) (λi x=>(1,((8:Int),(i:Int),()),())) (0,((0:Int),len l,()),()) j.1 (λi x b u e=>by
   unfold rj;dsimp only;rw[al u,ai];rcases inner i x b with ⟨d,q,h⟩|⟨d,q,h⟩;{rw[h,ab,d];rfl};rw[h,ab,d,e];rfl) (by unfold rj;dsimp only;rw[aq,ag];rfl) with ⟨i,x,b,c,p,h⟩|⟨hn,h⟩
  {rw[h,ab,aQ (I7.2 ⟨i,x,b,c⟩)];rfl};rw[h,ab,NY hn];rfl
 rw[ar m,aE,ai,aQ m]
def yA(l:List Tx)(h:l.length<=4294967296):aX (l,())=aa (l,()):=by unfold aX;rw[cK h];rfl
def B8(x y:List Tx)(k:x.length<=4294967296):dY (x,y,())=aa (decide<|x=y,()):=by
 unfold dY;rw[HD];by_cases d:x.length=y.length
 .rw[cW d];rcases eE (f:=kB (x,y,())) x (λi=>((false,i,()),())) (λi a=>decide (y[i]?≠aa a)) (λi a=>(1,(false,i,()),())) _ k (λi a g l c=>by unfold kB;have b:i<y.length:=ah;rw[al l,ai,al b,ai,ao g,ab,ao (ft b),ab,afK,di,c,ft b];by_cases h:a=y[i];{simp[bg,h]};have m:¬y[i]=a:=λe=>h e.symm;simp[bg,h,m]) (by unfold kB;rw[aq];rfl) with ⟨i,a,g,j,n,h⟩|⟨hn,h⟩
  {(rw[h];have:x≠y:=λe=>by subst e;rw[g] at j;simp at j);rw[cf this];rfl};(rw[h];have:x=y:=by apply KH;intro i;cases yd:x[i]? with|none =>have:=ajg.1 yd;exact(ajg.2 ah).symm|some a =>have:=hn i a yd;simp at this;exact this.symm);rw[cW this];rfl
 rw[cf d,aE,ai];have:x≠y:=λe=>d (by rw[e]);rw[cf this]
def qf{α}{n:Nat}{l:List α}{c:Int}(a:c=n):ak (aL ((min n l.length:Nat):Int)<|len l) (aL ((min n l.length:Nat):Int) c) false=false:=by
 subst a;by_cases h:l.length<=n
 {rw[Nat.min_eq_right h,aq,ag]};rw[xY ah,aB (uh _)];cases aL n _<;>rfl
def ej{α}{l:List α}{n:Nat}{c:Int}(a:c=n):cl (len l) c=decide (l.length<=n):=by subst a;exact qd n l
def fi{α}{l:List α}{n:Nat}{c:Int}(a:c=n):aL c (len l)=decide (n<l.length):=by subst a;exact zx n l
def mq(l:List Tx):Prop:=l.length<=8/\∀x∈l,x.length<=100
def TS(l:List Tx):∃b,pO (l,())=aa (b,())/\(b=true->mq l):=by
 unfold pO;rcases se (f:=lA (l,())) l 8 (λi=>((false,i,()),())) (λ_ x=>decide (100<x.length)) (λi x=>(1,(false,i,()),())) (λn=>_) ah (λi x d a g j=>by unfold lA;dsimp only;rw[al a,ai,aH ah,ai,ao d,ab,fi (c:=100) rfl,di,j];by_cases h:100<x.length<;>simp[h]) (by unfold lA;rw[qf (c:=8) rfl,ag]) with ⟨i,x,a,d,m,_,h⟩|⟨hn,h⟩
 {rw[h];exact⟨false,rfl,λh=>by cases h⟩};rw[h];refine⟨_,rfl,λe=>?_⟩;dsimp only at e;rw[ej (n:=8) (c:=8) rfl] at e;have k:=fy e;refine⟨k,λx d=>?_⟩;obtain⟨i,a⟩:=bc.1 d;have:=hn i x (by have:=av a;omega) a;simpa using this
def mq.small{l}(h:mq l):l.length<=4294967296:=by have:=h.1;omega
abbrev Item:=Tx×Tx×Tx×aj
abbrev cA:=Tx×Tx×List Tx×Tx×Int×Int×Bool×aj
abbrev jZ:=Tx×List Tx×Tx×Tx×List Item×aj
abbrev Aa:=Tx×List Tx×Tx×Tx×Tx×List Item×aj
abbrev Rq:=Int×List cA×List jZ×List Aa×aj
def Rr(l:List Tx):∃b,mv (l,())=aa (b,())/\(b=true->mq l):=by
 unfold mv;rcases se (f:=tp (l,())) l 8 (λi=>((false,i,()),())) (λ_ x=>decide (100<x.length)) (λi x=>(1,(false,i,()),())) (λn=>_) ah (λi x a d g j=>by unfold tp;rw[al d,ai,aH (show(i:Int)<8 by omega),ai,ao a,ab,fi (c:=100) rfl,di,j];by_cases h:100<x.length<;>simp[h]) (by unfold tp;rw[qf (c:=8) rfl,ag]) with ⟨i,x,d,a,k,_,h⟩|⟨hn,h⟩
 {rw[h];exact⟨false,rfl,λh=>by cases h⟩};rw[h];refine⟨_,rfl,λe=>?_⟩;rw[ej (c:=8) rfl] at e;refine⟨(fy e),λx a=>?_⟩;obtain⟨i,d⟩:=bc.1 a;grind
def acA(l:List Item):∃b,eC (l,())=aa (b,()):=by
 unfold eC;rcases se (f:=eK (l,())) l 8 (λi=>((false,i,()),())) (λ_ x=>decide (100<x.1.length)||decide (200<x.2.2.1.length)) (λi x=>(1,(false,i,()),())) (λn=>_) ah (λi x a d e g=>by unfold eK;rw[al d,aH (show(i:Int)<8 by omega),ao a,ab,fi (c:=100) rfl,ab,fi (c:=200) rfl,g];by_cases h:100<x.1.length;{simp[h,ak,nt,ae]};by_cases j:200<x.2.2.1.length<;>simp[h,j,ak,nt,ae]) (by unfold eK;rw[qf (c:=8) rfl,ag]) with ⟨i,x,d,a,k,_,h⟩|⟨hn,h⟩
 {rw[h];exact⟨false,rfl⟩};rw[h];exact⟨_,rfl⟩
structure TT (b:Rq):Prop where
 ll:b.2.1.length<=60
 ln:∀x∈b.2.1,mq x.2.2.1
 il:b.2.2.1.length<=60
 sH:∀x∈b.2.2.1,mq x.2.1
 bl:b.2.2.2.1.length<=60
 bn:∀x∈b.2.2.2.1,mq x.2.1
def afQ(b:Rq):∃c,ss (b,())=aa (c,())/\(c=true->TT b/\b.2.1.length<=40/\b.2.2.1.length<=40/\b.2.2.2.1.length<=40):=by
 obtain⟨a,g⟩:∃a,∀l,mv (l,())=aa (a l,())/\(a l=true->mq l):=⟨λl=>Classical.choose _,λl=>Su (Rr l)⟩;obtain⟨e,j⟩:∃a,∀l,eC (l,())=aa (a l,()):=⟨λl=>Classical.choose _,λl=>Su (acA l)⟩;obtain⟨n,p,r,v,u⟩:=b;unfold ss;rcases se (f:=je ((n,p,_),())) p 40 (λi=>((false,i,()),())) (λ_ x=>!a x.2.2.1) _ (λn=>_) ah (λi x d k s t=>by unfold je;rw[al k,aH (show(i:Int)<40 by omega),ai,ao d,ab,(g _).1,ab,t];cases a x.2.2.1<;>rfl) (by unfold je;rw[qf (c:=40) rfl,ag]) with ⟨i,x,k,d,y,_,h⟩|⟨A,h⟩
 .rw[h];exact⟨false,rfl,λh=>by cases h⟩
 rw[h,ab];rcases se (f:=jf ((n,p,r,_),())) r 40 (λi=>((false,i,()),())) (λ_ x=>!a x.2.1||decide (200<x.2.2.2.1.length)||!e x.2.2.2.2.1) _ (λn=>_) ah (λi x d k s t=>by unfold jf;rw[al k,aH (show(i:Int)<40 by omega),ai,ao d,ab,(g _).1,ab,ab,ab,fi (n:=200) (c:=200) rfl,j,ab,t];cases a x.2.1 with|false=>rfl|true =>by_cases m:200<x.2.2.2.1.length;{simp[m,ak,nt,ae]};cases B:e x.2.2.2.2.1<;>simp[m,ak,nt,ae]) (by unfold jf;rw[qf (c:=40) rfl,ag]) with ⟨i,x,k,d,y,_,h⟩|⟨C,h⟩
 .rw[h];exact⟨false,rfl,λh=>by cases h⟩
 rw[h,ab];rcases se (f:=jg ((n,p,r,v,u),())) v 40 (λi=>((false,i,()),())) (λ_ x=>!a x.2.1||decide (200<x.2.2.2.2.1.length)||!e x.2.2.2.2.2.1) _ (λn=>_) ah (λi x d k s t=>by unfold jg;rw[al k,aH (show(i:Int)<40 by omega),ao d,ab,(g _).1,ab,ab,ab,fi (c:=200) rfl,j,t];cases a x.2.1 with|false=>rfl|true =>by_cases m:200<x.2.2.2.2.1.length;{simp[m,ak,nt,ae]};cases B:e x.2.2.2.2.2.1<;>simp[m,ak,nt,ae]) (by unfold jg;rw[qf (c:=40) rfl,ag]) with ⟨i,x,k,d,y,_,h⟩|⟨D,h⟩
 .rw[h];exact⟨false,rfl,λh=>by cases h⟩
 rw[h];refine⟨_,rfl,λo=>?_⟩;rw[ej (c:=40) rfl,ej (c:=40) rfl,ej (c:=40) rfl] at o;have w:p.length<=40:=by by_cases q:p.length<=40;{exact q};rw[cf q] at o;cases o
 have m:r.length<=40:=by by_cases q:r.length<=40;{exact q};rw[cW w,cf q] at o;cases o
 have z:v.length<=40:=by by_cases q:v.length<=40;{exact q};rw[cW w,cW m,cf q] at o;cases o
 refine⟨⟨fB w aF,λx d=>?_,fB m aF,λx d=>?_,fB z aF,λx d=>?_⟩,w,m,z⟩
 .dsimp only at d;obtain⟨i,k⟩:=bc.1 d;grind
 {dsimp only at d;obtain⟨i,k⟩:=bc.1 d;grind};dsimp only at d;obtain⟨i,k⟩:=bc.1 d;grind
def ofL(x:cA):List Nm:=if x.2.2.2.2.2.2.1=true then [(x.1,x.2.2.1,())] else []
def ofI(x:jZ):List Nm:=[(x.1,x.2.1,())]
def ofB(x:Aa):List Nm:=[(x.1,x.2.1,())]
def ofV(a:Int)(b:Rq):List Nm:=if a=1 then b.2.2.2.1.flatMap ofB else if a=2 then b.2.2.1.flatMap ofI else if a=3 then b.2.1.flatMap ofL else []
def mw{b c:Type}{g:b->List c}(d:∀x,(g x).length<=1)(l:List b):(l.flatMap g).length<=l.length:=by induction l with|nil=>simp|cons a r e=>rw[aen,iU,iV];have:=d a;omega
def fj{a b:Type}{g:a->List b}(c:∀x,(g x).length<=1)(l:List a) i:((l.take i).flatMap g).length<=l.length:=by have:=mw c (l.take i);grind
def LZ x:(ofL x).length<=1:=by unfold ofL;split<;>simp
def HI x:(ofI x).length<=1:=by simp[ofI]
def L1 x:(ofB x).length<=1:=by simp[ofB]
def xR{α}{s:List α}{x:α}(h:s.length<=1000):fits (plus (len s)<|len [x])=true:=aJ cR
def xG kind b (a:TT b):rY (kind,b,())=aa (ofV kind b,()):=by
 unfold rY ofV;by_cases g:kind=1
 .rw[aQ g,au g,ai];have:=iv (f:=vt (kind,b,())) b.2.2.2.1 (λs i=>((i,()),(),s,())) ofB _ (by have:=a.bl;omega) (λi x c d e=>by unfold vt;dsimp only;have k:=fj L1 b.2.2.2.1 i;rw[al d,ao c,ab,yA _ (a.bn x<|bc.2 ⟨i,c⟩).small,ab,xR (by have:=a.bl;omega),e];rfl) (by unfold vt;rw[aq];rfl)
  rw[this,ab,ab]
 rw[aK g,ar g,ag];by_cases h:kind=2;{(rw[aQ h,au h,ai];have:=iv (f:=vu (kind,b,())) b.2.2.1 (λs i=>((i,()),(),s,())) ofI _ (by have:=a.il;omega) (λi x c d e=>by unfold vu;dsimp only;have k:=fj HI b.2.2.1 i;rw[al d,ao c,ab,yA _ (a.sH x<|bc.2 ⟨i,c⟩).small,ab,xR (by have:=a.il;omega),e];rfl) (by unfold vu;rw[aq];rfl));rw[this,ab,ab,ab]};rw[aK h,ar h,ag];by_cases j:kind=3;{(rw[aQ j,au j,ai];have:=iv (f:=vv (kind,b,())) b.2.1 (λs i=>((i,()),(),s,())) ofL _ (by have:=a.ll;omega) (λi x c d e=>by unfold vv;dsimp only;have k:=fj LZ b.2.1 i;rw[al d,ao c,ab,yA _ (a.ln x<|bc.2 ⟨i,c⟩).small,ab,xR (by have:=a.ll;omega),e];unfold ofL;cases x.2.2.2.2.2.2.1 with|false=>simp[ak,ae,cr]|true=>rfl) (by unfold vv;rw[aq];rfl));rw[this,ab,ab,ab,ab]};rw[aK j,ar j];rfl
def yB(a:Int)(b:Rq)(c:TT b):rZ (a,b,())=aa (ofV a b,()):=by
 unfold rZ ofV;dsimp only;by_cases h:a=1
 .rw[aQ h,au h,ai];have:=iv (f:=vx (a,b,())) b.2.2.2.1 (λs i=>(((),i,()),s,())) ofB (((),len b.2.2.2.1,()),b.2.2.2.1.flatMap ofB,()) (by have:=c.bl;omega) (λi x d e g=>by unfold vx;dsimp only;have l:=fj L1 b.2.2.2.1 i;rw[al e,ai,ao d,ab,ab,xR (by have:=c.bl;omega),ai,g];rfl) (by unfold vx;dsimp only;rw[aq,ag];rfl)
  rw[this,ab,ab]
 rw[aK h,ar h,ag];by_cases j:a=2;{(rw[aQ j,au j,ai];have:=iv (f:=vy (a,b,())) b.2.2.1 (λs i=>(((),i,()),s,())) ofI (((),len b.2.2.1,()),b.2.2.1.flatMap ofI,()) (by have:=c.il;omega) (λi x d e g=>by unfold vy;dsimp only;have l:=fj HI b.2.2.1 i;rw[al e,ai,ao d,ab,ab,xR (by have:=c.il;omega),ai,g];rfl) (by unfold vy;dsimp only;rw[aq,ag];rfl));rw[this,ab,ab,ab]};rw[aK j,ar j,ag];by_cases k:a=3;{(rw[aQ k,au k,ai];have:=iv (f:=vz (a,b,())) b.2.1 (λs i=>(((),i,()),s,())) ofL (((),len b.2.1,()),b.2.1.flatMap ofL,()) (by have:=c.ll;omega) (λi x d e g=>by unfold vz;dsimp only;have l:=fj LZ b.2.1 i;rw[al e,ai,ao d,ab,ab,ab,xR (by have:=c.ll;omega),ai,g];unfold ofL;cases x.2.2.2.2.2.2.1 with|false=>simp[ak,ae,cr]|true=>rfl) (by unfold vz;dsimp only;rw[aq,ag];rfl));rw[this,ab,ab,ab,ab]};rw[aK k,ar k,ag];rfl
def D9 kind b (c:TT b):Small (ofV kind b):=by
 unfold ofV;split
 {refine⟨by have:=mw L1 b.2.2.2.1;have:=c.bl;omega,λx a=>?_⟩;rw[Sz] at a;obtain⟨y,d,a⟩:=a;simp only[ofB,Ey] at a;subst a;exact(c.bn y d).small};split;{refine⟨by have:=mw HI b.2.2.1;have:=c.il;omega,λx a=>?_⟩;rw[Sz] at a;obtain⟨y,d,a⟩:=a;simp only[ofI,Ey] at a;subst a;exact(c.sH y d).small};split;{refine⟨by have:=mw LZ b.2.1;have:=c.ll;omega,λx a=>?_⟩;rw[Sz] at a;obtain⟨y,d,a⟩:=a;unfold ofL at a;split at a;{simp at a;subst a;exact(c.ln y d).small};cases a};exact⟨aT,λx a=>by cases a⟩
def FX(n x:Int):Int:=A5 .u32 (jT .u32 x n) (oD .u32 x<|32-n)
def qP{n m}(h:hL .u64 (lj .u64<|cG .i64 0 n) 31=m)(a:aL m 0=false)(b:cG .u64 32 m=n)(c:aL n 0=false)(d:32-n=m) x:cu (x,n,())=aa (FX n x,()):=by unfold cu kT FX;rw[h,a,ag,b,c,ag,ab,d,Ze]
def Bz{n}(a:aL n 0=false)(b:cG .i64 32 n=32-n)(c:aL (32-n) 0=false) x:cB (x,n,())=aa (FX n x,()):=by unfold cB FX;rw[a,ag,b,c,ag]
def r7 x:cu (x,7,())=aa (FX 7 x,()):=qP (m:=25) aF aF aF aF aF x
def r18 x:cu (x,18,())=aa (FX 18 x,()):=qP (m:=14) aF aF aF aF aF x
def r17 x:cu (x,17,())=aa (FX 17 x,()):=qP (m:=15) aF aF aF aF aF x
def r19 x:cu (x,19,())=aa (FX 19 x,()):=qP (m:=13) aF aF aF aF aF x
def r6 x:cu (x,6,())=aa (FX 6 x,()):=qP (m:=26) aF aF aF aF aF x
def r11 x:cu (x,11,())=aa (FX 11 x,()):=qP (m:=21) aF aF aF aF aF x
def r25 x:cu (x,25,())=aa (FX 25 x,()):=qP (m:=7) aF aF aF aF aF x
def r2 x:cu (x,2,())=aa (FX 2 x,()):=qP (m:=30) aF aF aF aF aF x
def r13 x:cu (x,13,())=aa (FX 13 x,()):=qP (m:=19) aF aF aF aF aF x
def r22 x:cu (x,22,())=aa (FX 22 x,()):=qP (m:=10) aF aF aF aF aF x
def t7 x:cB (x,7,())=aa (FX 7 x,()):=Bz aF aF aF x
def t18 x:cB (x,18,())=aa (FX 18 x,()):=Bz aF aF aF x
def t17 x:cB (x,17,())=aa (FX 17 x,()):=Bz aF aF aF x
def t19 x:cB (x,19,())=aa (FX 19 x,()):=Bz aF aF aF x
def t11 x:cB (x,11,())=aa (FX 11 x,()):=Bz aF aF aF x
def t2 x:cB (x,2,())=aa (FX 2 x,()):=Bz aF aF aF x
def t13 x:cB (x,13,())=aa (FX 13 x,()):=Bz aF aF aF x
def word(b:List Int)(t:Nat):Int :=A5 .u32 (A5 .u32 (A5 .u32 (oD .u32 (lj .u32<|b.getD (4*t) 0) 24)<|oD .u32 (lj .u32<|b.getD (4*t+1) 0) 16)<|oD .u32 (lj .u32<|b.getD (4*t+2) 0) 8) (lj .u32<|b.getD (4*t+3) 0)
def gN(n:Nat):List Int:=List.replicate n 0
def C8(b:List Int):Nat->List Int|0=>gN 64|t+1=>(C8 b t).set t (word b t)
def wk b t:(C8 b t).length=64:=by induction t with|zero=>rfl|succ t a=>simp[C8,a]
def acB b:∀t j,t<=j->j<64->(C8 b t).getD j 0=0:=by intro t;induction t with|zero =>intro j _ d;show(List.replicate 64 _).getD j 0=0;grind|succ t a =>intro j e c;have:=a j ah c;simp only[C8] at this⊢;grind
def al8(p:List Int)(t:Nat):Int :=aw .u32 (aw .u32 (aw .u32 (gQ .u32 (gQ .u32 (FX 17<|p.getD (t-2) 0)<|FX 19<|p.getD (t-2) 0)<|jT .u32 (p.getD (t-2) 0) 10)<|p.getD (t-7) 0) (gQ .u32 (gQ .u32 (FX 7<|p.getD (t-15) 0)<|FX 18<|p.getD (t-15) 0)<|jT .u32 (p.getD (t-15) 0) 3)) (p.getD (t-16) 0)
def Lm(l:List Int):Nat->List Int|0=>l|k+1=>(Lm l k).set (16+k) (al8 (Lm l k)<|16+k)
def FY l k:(Lm l k).length=l.length:=by induction k with|zero=>rfl|succ k a=>simp[Lm,a]
def BA(b:List Int):List Int:=Lm (C8 b 16) 48
def HJ b:(BA b).length=64:=by unfold BA;rw[FY,wk]
def four{t:Nat}(a:t<64):lg .i64 4 t=((4*t:Nat):Int):=by rw[C5 ah ah];omega
def Wt b (l:b.length=64) (t:Nat) (m:t<16) w (d:w.length=64) (n:w.getD t 0=0) u v y :
  Loop (kx (b,u) ((t,v),y)) ((0,()),w,())=aa ((4,()),w.set t<|word b t,()):=by
 let a:=λj=>match j with|0=>0|1=>A5 .u32 (oD .u32 0 8) (lj .u32<|b.getD (4*t) 0)|2=>A5 .u32 (oD .u32 (A5 .u32 (oD .u32 0 8)<|lj .u32<|b.getD (4*t) 0) 8) (lj .u32<|b.getD (4*t+1) 0)|3=>A5 .u32 (oD .u32 (A5 .u32 (oD .u32 (A5 .u32 (oD .u32 0 8)<|lj .u32<|b.getD (4*t) 0) 8)<|lj .u32<|b.getD (4*t+1) 0) 8) (lj .u32<|b.getD (4*t+2) 0)|_=>word b t
 have c:∀j,j<4->a (j+1)=A5 .u32 (oD .u32 (a j) 8) (lj .u32<|b.getD (4*t+j) 0):=by intro j e;rcases(by omega:j=0\/j=1\/j=2\/j=3) with rfl|rfl|rfl|rfl;{rfl};{rfl};{rfl};exact(aif _ _ _ _).symm
 have h:w=w.set t 0:=by apply KH;grind
 have:=dc (f:=kx (b,u) ((t,v),y)) 4 (λj=>((j,()),w.set t<|a j,())) (λj e=>by
  unfold kx;dsimp only;rw[four ah,eV ah ah];have g:minus (((4*t:Nat):Int)+4) ((4*t:Nat):Int)=4:=by unfold minus;omega
  rw[ aH ah,ai,aG ah ah,ai,aG ah ah];have o:(w.set t<|a j).length=64:=by simp[d]
  have i:(w.set t<|a j).getD t 0=a j:=by simp[ d,(by omega:t<64)]
  rw[n7 b 0 (k:=4*t+j) (by unfold plus;omega) ah,ab,ai,fP _ 0 ah,i,ab,aB aF,ag,ai,ab,ab,ab,kI,aC ah,C6,List.set_set,c j e])
  (by (unfold kx;rw[four ah,eV ah ah];have g:minus (((4*t:Nat):Int)+4) ((4*t:Nat):Int)=4:=by unfold minus;omega);rw[g];rfl)
 grind
def aa0:([0,0,0,0,0,0,0,0,0,0,0,0,0,0,0,0,0,0,0,0,0,0,0,0,0,0,0,0,0,0,0,0,0,0,0,0,0,0,0,0,0,0,0,0,0,0,0,0,0,0,0,0,0,0,0,0,0,0,0,0,0,0,0,0]:List Int)=gN 64:=rfl
def Wu b (a:b.length=64) u:Loop (n9 (b,u)) ((0,()),gN 64,())=aa ((16,()),C8 b 16,()):=by
 refine dc 16 (λt=>(((t:Int),()),C8 b t,())) (λt c=>?_) ?_
 {unfold n9;dsimp only;rw[aH ah,four ah,eV ah ah,aM ah ah ah,Wt b a t c _ (wk b t) (acB b t t (b0 _) ah),aC ah];rfl};unfold n9;dsimp only;rfl
def acC l (a:l.length=64):Loop oa ((16,()),l,())=aa ((64,()),Lm l 48,()):=by
 refine dc 48 (λk=>((((16+k:Nat):Int),()),Lm l k,())) (λk b=>?_) ?_
 .have hlen:(Lm l k).length=64:=by rw[FY,a]
  unfold oa;dsimp only;rw[aH ah,du ah ah,du ah ah,du ah ah,du ah ah,aG ah ah,ai,n7 _ 0 (k:=16+k-2) ah ah,ab,aG ah ah,ai,n7 _ 0 (k:=16+k-15) ah ah,ab,r7,ab,r18,ab,aB aF,ag,r17,ab,r19,ab,aG ah ah,ai,n7 _ 0 (k:=16+k-7) ah ah,ab,aG ah ah,ai,n7 _ 0 (k:=16+k-16) ah ah,aG ah ah,fP _ 0 ah,aC ah]
  rfl
 unfold oa;dsimp only;rfl
def TU b (a:b.length=64) u:s7 (b,u)=aa (BA b,()):=by unfold s7;rw[aa0,Wu b a,ab,acC _<|wk b 16,ab];dsimp only[BA]
def afS s {i} (h:i<s.length) x (hx:s[i]?=aa x):u8 x=(ax s).getD i 0:=by simp[ax,hx,u8]
def acD h s (hs:s.length=64) u:Loop (lP (h,s,u)) ((0,()),gN 64,())=aa (((16:Int),()),C8 (ax s) 16,()):=by
 have key:∀b,b=ax s->Loop (lP (h,s,u)) ((0,()),gN 64,())=aa ((16,()),C8 b 16,()):=by intro b a;refine dc 16 (λt=>(((t:Int),()),C8 b t,())) (λt o=>?_) ?_;{(have at_:∀(i:Int) (j:Nat),i=j->j<64->∃x,idx s i=aa x/\u8 x=b.getD j 0:=by intro i j e p;subst e;refine⟨s[j],?_,by rw[a];exact afS s ah _ (ft ah)⟩;rw[s6,ft]);(unfold lP;dsimp only;rw[aH ah,four ah,eV ah ah,eV ah ah,eV ah ah];obtain⟨q,c,d⟩:=at_ _ (4*t) rfl ah;obtain⟨r,f,g⟩:=at_ (((4*t:Nat):Int)+1) (4*t+1) ah ah;obtain⟨v,k,l⟩:=at_ (((4*t:Nat):Int)+2) (4*t+2) ah ah;obtain⟨w,m,n⟩:=at_ (((4*t:Nat):Int)+3) (4*t+3) ah ah;rw[c,ab,aB aF,ag,f,ab,aB aF,ag,k,ab,m,ab,aG ah ah,fP _ 0 (by rw[wk];omega),aC ah,d,g,l,n]);rfl};unfold lP;dsimp only;rfl
 grind
def aik l (a:l.length=64):Loop pC ((16,()),l,())=aa ((64,()),Lm l 48,()):=by
 refine dc 48 (λk=>((((16+k:Nat):Int),()),Lm l k,())) (λk b=>?_) ?_
 .have hlen:(Lm l k).length=64:=by rw[FY,a]
  unfold pC;dsimp only;rw[aH ah,du ah ah,du ah ah,du ah ah,du ah ah,aG ah ah,ai,n7 _ 0 (k:=16+k-2) ah ah,ab,aG ah ah,ai,n7 _ 0 (k:=16+k-15) ah ah,ab,t17,ab,t19,ab,aB aF,ag,aG ah ah,ai,n7 _ 0 (k:=16+k-7) ah ah,ab,t7,ab,t18,ab,aG ah ah,ai,n7 _ 0 (k:=16+k-16) ah ah,aG ah ah,fP _ 0 ah,aC ah]
  rfl
 unfold pC;dsimp only;rfl
abbrev W8:=Int×Int×Int×Int×Int×Int×Int×Int
def rnd(k w:Int):W8->W8
 | (a,b,c,d,e,f,g,h) =>
   let one:=aw .u32 (aw .u32 (aw .u32 (aw .u32 h<|gQ .u32 (gQ .u32 (FX 6 e)<|FX 11 e)<|FX 25 e)<|gQ .u32 g<|hL .u32 e<|gQ .u32 f g) k) w;let two:=aw .u32 (gQ .u32 (gQ .u32 (FX 2 a)<|FX 13 a)<|FX 22 a) (A5 .u32 (hL .u32 a b)<|hL .u32 c<|A5 .u32 a b)
   (aw .u32 one two,a,b,c,aw .u32 d one,e,f,g)
def Wv(K w:List Int)(s:W8):Nat->W8|0=>s|t+1=>rnd (K.getD t 0) (w.getD t 0) (Wv K w s t)
def I8:List Int:=[1116352408,1899447441,3049323471,3921009573,961987163,1508970993,2453635748,2870763221,3624381080,310598401,607225278,1426881987,1925078388,2162078206,2614888103,3248222580,3835390401,4022224774,264347078,604807628,770255983,1249150122,1555081692,1996064986,2554220882,2821834349,2952996808,3210313671,3336571891,3584528711,113926993,338241895,666307205,773529912,1294757372,1396182291,1695183700,1986661051,2177026350,2456956037,2730485921,2820302411,3259730800,3345764771,3516065817,3600352804,4094571909,275423344,430227734,506948616,659060556,883997877,958139571,1322822218,1537002063,1747873779,1955562222,2024104815,2227730452,2361852424,2428436474,2756734187,3204031479,3329325298]
def acE:CV ()=aa (I8,()):=rfl
def Zj:ym ()=aa (I8,()):=rfl
def yC(s:W8)(t:Int):Int×Int×Int×Int×Int×Int×Int×Int×Int×aj:=(s.1,s.2.1,s.2.2.1,s.2.2.2.1,s.2.2.2.2.1,s.2.2.2.2.2.1,s.2.2.2.2.2.2.1,s.2.2.2.2.2.2.2,t,())
def pe(s:W8):List Int:=[s.1,s.2.1,s.2.2.1,s.2.2.2.1,s.2.2.2.2.1,s.2.2.2.2.2.1,s.2.2.2.2.2.2.1,s.2.2.2.2.2.2.2]
def Zk w (a:w.length=64) s u v:Loop (lq (I8,u) (w,v)) (yC s 0,())=aa (yC (Wv I8 w s 64) 64,()):=by
 refine dc 64 (λt=>(yC (Wv I8 w s t) t,())) (λt b=>?_) ?_
 .show lq _ _ _=aa _;unfold lq yC;dsimp only;rw[aH ah,r6,r11,r25,aG ah ah,fP I8 0 (by show t<64;omega),fP w 0 ah,r2,r13,r22,aC ah]
  rfl
 unfold yC;rfl
def Zl(w:List Int)(n:w.length=64)(s:W8) q u v:Loop (lQ (q,w,u) (I8,v)) ((0,()),pe s,())=aa (((64:Int),()),pe<|Wv I8 w s 64,()):=by
 refine dc 64 (λt=>(((t:Int),()),pe<|Wv I8 w s t,())) (λt i=>?_) ?_
 .show lQ _ _ _=aa (.inl ((((t+1:Nat):Int),()),pe<|rnd _ _ _,()));generalize Wv I8 w s t=q;obtain⟨a,b,c,d,e,f,g,h⟩:=q;have j:idx (pe (a,b,c,d,e,f,g,h)) 0=aa a:=rfl;have k:idx (pe (a,b,c,d,e,f,g,h)) 1=aa b:=rfl;have l:idx (pe (a,b,c,d,e,f,g,h)) 2=aa c:=rfl;have o:idx (pe (a,b,c,d,e,f,g,h)) 3=aa d:=rfl;have p:idx (pe (a,b,c,d,e,f,g,h)) 4=aa e:=rfl;have r:idx (pe (a,b,c,d,e,f,g,h)) 5=aa f:=rfl;have x:idx (pe (a,b,c,d,e,f,g,h)) 6=aa g:=rfl;have y:idx (pe (a,b,c,d,e,f,g,h)) 7=aa h:=rfl;have w0:within 0 8=true:=aF;have w1:within 1 8=true:=aF;have w2:within 2 8=true:=aF;have m:within 3 8=true:=aF;have wt:within t 64=true:=aG ah ah;unfold lQ;simp only[aH<|show(t:Int)<64 by omega,ai,w0,w1,w2,m,wt,j,k,l,ab,t11,t2,t13,fP I8 0 i,fP w 0 (show t<w.length by omega),aC (show t<4611686018427387904 by omega),<-al5,<-aki]
  rfl
 unfold lQ;rfl
def of8(l:List Int):W8:=(l.getD 0 0,l.getD 1 0,l.getD 2 0,l.getD 3 0,l.getD 4 0,l.getD 5 0,l.getD 6 0,l.getD 7 0)
def acF l (i:l.length=8):pe (of8 l)=l:=by match l,i with|[a,b,c,d,e,f,g,h],_=>rfl
def BB(l m:List Int):Nat->List Int|0=>l|i+1=>(BB l m i).set i (aw .u32 (l.getD i 0)<|m.getD i 0)
def C9 l m i:(BB l m i).length=l.length:=by induction i with|zero=>rfl|succ i a=>simp[BB,a]
def aa1 l m:∀i j,i<=j->(BB l m i).getD j 0=l.getD j 0:=by intro i;induction i with|zero=>intro j _;rfl|succ i a =>intro j h;have:=a j ah;simp only[BB] at this⊢;grind
def comp(h b:List Int):List Int:=BB h (pe<|Wv I8 (BA b) (of8 h) 64) 8
def Ww h b:(comp h b).length=h.length:=C9 _ _ _
def acG l m (i:l.length=8) (j:m.length=8):BB l m 8=BB m l 8:=by match l,i,m,j with|[a,b,c,d,e,f,g,h],_,[k,n,o,p,q,r,s,t],_ =>simp only[BB,List.set,List.getD_cons_succ];simp only[Wk]
def acH h (c:h.length=8) s (hs:s.length=64) u:vh (h,s,u)=aa (comp h<|ax s,()):=by
 unfold vh;rw[aa0,acD h s hs,ab,aik _<|wk _ _,ab,Zj,ab];have b:(BA<|ax s).length=64:=HJ _;have d:=Zl _ b (of8 h) (64,()) () ();rw[<-((acF h c).symm)] at d;rw[show Lm _ 48=BA _ from rfl,d,ab];generalize e:pe _=m;have a:m.length=8:=by rw[<-e];rfl
 have:Loop (pD (h,s,u)) ((0,()),m,())=aa ((8,()),BB m h 8,()):=by refine dc 8 (λi=>(((i:Int),()),BB m h i,())) (λi f=>?_) ?_;{(have g:(BB m h i).length=8:=by rw[C9,a]);unfold pD;simp only[aH<|show(i:Int)<8 by omega,aG (show(0:Int)<=i by omega) (show _<8 by omega),fP _ 0 (show i<(BB m h i).length by omega),fP h 0 (show i<h.length by omega),aC (show i<4611686018427387904 by omega)];rw[aa1 m h i i<|b0 _];rfl};unfold pD;rfl
 rw[this,ab,acG m h a c];unfold comp;rw[e]
def H0:List Int:=[1779033703,3144134277,1013904242,2773480762,1359893119,2600822924,528734635,1541459225]
def acI:v7 ()=aa (H0,()):=rfl
def Qc:zW ()=aa (H0,()):=rfl
def BC(a:bb):Nat->List Int|0=>H0|k+1=>comp (BC a k) (ax<|(a.drop<|64*k).take 64)
def BD all k:(BC all k).length=8:=by induction k with|zero=>rfl|succ k a=>simp only[BC];rw[Ww,a]
def aa2 all more:∀k,64*k<=all.length->BC (all++more) k=BC all k:=by intro k;induction k with|zero=>intro _;rfl|succ k a =>simp only[BC];grind
abbrev Wx:=(Bool×List Int×aj)×List Int×Int×aj
def Inv(c:Wx)(a:bb):Prop :=∃b,c=((decide<|64<=a.length,(if 64<=a.length then BC a (a.length / 64) else gN 8),()),b,(a.length:Int),())/\b.length=64/\b.take (a.length % 64)=ax (a.drop<|64*(a.length / 64))
def afT:Wx:=((false,gN 8,()),gN 64,0,())
def anT:Inv afT []:=⟨gN 64,rfl,rfl,rfl⟩
def E5 a b:ax (a++b)=ax a++ax b:=by simp[ax]
def NZ a n:(ax a).take n=ax (a.take n):=by simp[ax]
def kJ a:(ax a).length=a.length:=by simp[ax]
def wm(a b:Nat):gx a b=((a % b:Nat):Int):=(Int.natCast_emod a b).symm
def afU q (st:Wx) (a:st.1.2.1.length=8):Loop (ik (yC q 64,())) ((0,()),st,())=aa ((8,()),((st.1.1,BB st.1.2.1 (pe q) 8,st.1.2.2),st.2),()):=by
 obtain⟨⟨b,h,u⟩,c⟩:=st;refine dc (f:=ik _) 8 (λi=>((i,()),((b,BB h (pe q) i,u),c),())) (λi g=>?_) ?_
 .have j:(BB h (pe q) i).length=8:=by rw[C9,a]
  have d:([(yC q 64).1,(yC q 64).2.1,(yC q 64).2.2.1,(yC q 64).2.2.2.1,(yC q 64).2.2.2.2.1,(yC q 64).2.2.2.2.2.1,(yC q 64).2.2.2.2.2.2.1,(yC q 64).2.2.2.2.2.2.2.1])=pe q:=rfl;unfold ik;rw[d];have e:(pe q).length=8:=rfl;simp only[aH<|show(i:Int)<8 by omega,aG (show(0:Int)<=i by omega) (show _<8 by omega),fP (BB h (pe q) i) 0 (show i<(BB h _ i).length by omega),fP _ 0 (show i<(pe q).length by omega),ab,aC (show i<4611686018427387904 by omega)];rw[aa1 h _ i i<|b0 _];rfl
 unfold ik;rfl
def afV(part a:bb)(M:Wx)(O:part≠[])(P:Inv M a)(hb:a.length+part.length<1152921504606846976) :
  ∃p,fU ((part,()),M,())=aa (.inl ((part.drop<|64-a.length % 64,()),p,()))/\Inv p (a++part.take (64-a.length % 64)):=by
 obtain⟨d,rfl,hw,Q⟩:=P;generalize R:a.length=N at *;have S:N % 64<64:=Cy _ aF;have B:gx (N:Int) 64=((N % 64:Nat):Int):=wm N 64;have em:mZ (ax part) (minus (64:Int) ((N % 64:Nat):Int))=ax (part.take<|64-N % 64):=by unfold mZ minus;rw[show((64:Int)-((N % 64:Nat):Int)).toNat=64-N % 64 by omega,NZ]
 generalize j:(part.take<|64-N % 64).length=k;have T:k=min (64-N % 64) part.length:=by rw[<-j,dw]
 have U:0<k:=by
  have:0<part.length:=by cases part with|nil=>exact absurd rfl O|cons=>simp
  omega
 have q:len (ax<|part.take<|64-N % 64)=(k:Int):=by unfold len;rw[kJ,j]
 have s:aw .i64 ((N % 64:Nat):Int) (k:Int)=((N % 64+k:Nat):Int):=by rw[eV ah ah];omega
 have l:aw .i64 (N:Int) (k:Int)=((N+k:Nat):Int):=by rw[eV ah ah];omega
 have t:inside ((N % 64:Nat):Int) 64 64=true:=aM ah ah ah;have u:inside (k:Int) (len part) (len part)=true:=aM ah dR ah;have v:sub part (k:Int) (minus (len part) (k:Int))=part.drop k:=by unfold sub minus len;rw[uB,KE (by rw[rV];omega)]
 have w:part.drop k=part.drop (64-N % 64):=by rcases Nat.le_total (64-N % 64) part.length with h|h;{rw[show k=64-N % 64 by omega]};rw[Gn ah,Gn h]
 have m:over d ((N % 64:Nat):Int) (ax<|part.take<|64-N % 64)=ax (a.drop (64*(N / 64))++part.take (64-N % 64))++d.drop (N % 64+k):=by unfold over;rw[uB,Q,kJ,j,E5]
 have C:nt (bg part [])=true:=by unfold bg nt;cases part with|nil=>exact absurd rfl O|cons x r=>rfl
 have e:(a++part.take (64-N % 64)).length=N+k:=by rw[iU,R,j]
 have V:64*(N / 64)+N % 64=N:=UY N 64;have b:(a.drop<|64*(N / 64)).length=N % 64:=by rw[rV];omega
 have g:(ax (a.drop (64*(N / 64))++part.take (64-N % 64))++d.drop (N % 64+k)).length=64:=by rw[iU,kJ,iU,b,j,rV];omega
 unfold fU;dsimp only;simp only[C,ai,ar (show(64:Int)≠0 by decide),ag,B,t,em,q,u,s,l,v,m];by_cases D:N % 64+k=64
 ·
  have E:d.drop (N % 64+k)=[]:=by rw[Gn ah]
  simp only[au<|show((N % 64+k:Nat):Int)=64 by omega,ai,E,uC] at g⊢;generalize z:ax (a.drop (64*(N / 64))++part.take (64-N % 64))=blk at *;have A:(N+k) / 64=N / 64+1:=ah;have F:(N+k) % 64=0:=ah;have n:((a++part.take (64-N % 64)).drop<|64*(N / 64)).take 64=a.drop (64*(N / 64))++part.take (64-N % 64):=by rw[abR ah,KE (by rw[iU,b,j];omega)]
  have G:∃H:Bool,H=true/\(ae (ak (nt<|decide<|64<=N) (ae (v7 ()) λI:List Int×aj=>aa ((),((true,I.1,()),blk,((N+k:Nat):Int),()),()))<|some ((),((decide<|64<=N,(if 64<=N then BC a (N / 64) else gN 8),()),blk,((N+k:Nat):Int),()),())) λy:aj×Wx×aj=>aa y)=aa ((),((true,BC a (N / 64),()),blk,((N+k:Nat):Int),()),()):=by refine⟨true,rfl,?_⟩;by_cases c:64<=N;{simp only[c,aaw,y9];rfl};have:N / 64=0:=ah;simp only[c,decide_false,if_false,this,acI];rfl
  obtain⟨_,_,G⟩:=G;have J:(ak (nt<|decide<|64<=N) (ae (v7 ()) λI:List Int×aj=>aa ((),((true,I.1,()),blk,((N+k:Nat):Int),()),())) (aa ((),((decide<|64<=N,(if 64<=N then BC a (N / 64) else gN 8),()),blk,((N+k:Nat):Int),()),())):Option (aj×Wx×aj))=aa ((),((true,BC a (N / 64),()),blk,((N+k:Nat):Int),()),()):=by (have:∀o:Option (aj×Wx×aj),(ae o λy=>aa y)=o:=by intro o;cases o<;>rfl);exact(this _).symm.trans G
  rw[J,ab,acE,ab,TU blk g,ab];dsimp only;have K:=BD a (N / 64);have W:=n7 (BC a<|N / 64) 0 (i:=0) (k:=0) rfl ah;have X:=n7 (BC a<|N / 64) 0 (i:=1) (k:=1) rfl ah;have Y:=n7 (BC a<|N / 64) 0 (i:=2) (k:=2) rfl ah;have Z:=n7 (BC a<|N / 64) 0 (i:=3) (k:=3) rfl ah;have i4:=n7 (BC a<|N / 64) 0 (i:=4) (k:=4) rfl ah;have i5:=n7 (BC a<|N / 64) 0 (i:=5) (k:=5) rfl ah;have i6:=n7 (BC a<|N / 64) 0 (i:=6) (k:=6) rfl ah;have i7:=n7 (BC a<|N / 64) 0 (i:=7) (k:=7) rfl ah;have w0:within 0 8=true:=aF;have w1:within 1 8=true:=aF;have w2:within 2 8=true:=aF;have w3:within 3 8=true:=aF;have w4:within 4 8=true:=aF;have w5:within 5 8=true:=aF;have w6:within 6 8=true:=aF;have w7:within 7 8=true:=aF;simp only[w0,w1,w2,w3,w4,w5,w6,w7,ai,W,X,Y,Z,i4,i5,i6,i7,ab];have hr:=Zk (BA blk) (HJ blk) (of8<|BC a<|N / 64) () ();rw[show((BC a _).getD 0 0,(BC a _).getD 1 0,(BC a _).getD 2 0,(BC a _).getD 3 0,(BC a _).getD 4 0,(BC a _).getD 5 0,(BC a _).getD 6 0,(BC a _).getD 7 0,0,())=yC (of8<|BC a _) 0 from rfl,hr,ab,afU _ ((true,BC a _,()),blk,_,()) K,ab,ab,kI];refine⟨_,by rw[w],?_⟩;refine⟨blk,?_,g,?_⟩;{(rw[e];have c:64<=N+k:=ah;simp only[c,aaw,y9];have L:BC (a++part.take (64-N % 64)) ((N+k) / 64)=BB (BC a<|N / 64) (pe<|Wv I8 (BA blk) (of8<|BC a<|N / 64) 64) 8:=by rw[A];simp only[BC];rw[aa2 a _ _ ah,n,z];rfl);rw[L]};rw[e,F,Gn ah];rfl
 .have hnf:N % 64+k<64:=ah;simp only[ar<|show((N % 64+k:Nat):Int)≠64 by omega,ag,ab,kI];refine⟨_,by rw[w],?_⟩;have A:(N+k) / 64=N / 64:=ah;refine⟨_,?_,g,?_⟩;{rw[e,A];by_cases c:64<=N;{have f:64<=N+k:=ah;simp only[c,f];rw[aa2 a _ _ ah]};have f:¬64<=N+k:=ah;simp only[c,f,if_false]};rw[e,A,ad9 (by rw[kJ,iU,b,j];omega),KE (by rw[kJ,iU];omega),abR ah]
def afW:∀n a all c,a.length<=n->Inv c all->all.length+a.length<1152921504606846976 ->
  ∃b,Loop fU ((a,()),c,())=aa (([],()),b,())/\Inv b (all++a):=by
 intro n;induction n with|zero =>(intro a all c hn e f;rw[aN];have:fU (([],()),c,())=aa (.inr (([],()),c,())):=by unfold fU;rw[show nt _=false from rfl,ag,nB]);grind|succ n h =>intro a all c hn e f;by_cases i:a=[];{grind};obtain⟨d,j,k⟩:=afV a all c i e f;obtain⟨b,l,g⟩:=h (a.drop<|64-all.length % 64) _ d (by rw[rV];omega) k (by rw[iU,dw,rV];omega);refine⟨b,?_,by rw[xW,Gp] at g;exact g⟩;rw[aN,j];exact l
def L2 part all st (b:Inv st all) (c:all.length+part.length<1152921504606846976):∃a,gp ((part,()),st,())=aa ((),a,())/\Inv a (all++part):=by obtain⟨a,d,e⟩:=afW part.length part all st (b0 _) b c;refine⟨a,?_,e⟩;unfold gp;rw[d,ab]
def zs(n:Nat):Nat:=(119-n % 64) % 64
def jD(n k:Nat):Int:=lj .u8 (jT .u64 (lg .u64 (lj .u64 (n:Int)) 8) ((8*k:Nat):Int))
def Qd(n:Nat):List Int:=[jD n 7,jD n 6,jD n 5,jD n 4,jD n 3,jD n 2,jD n 1,jD n 0]
def pad(s:bb):bb:=s++[128]++List.replicate (zs s.length) 0++br (Qd s.length)
def FZ s:(pad s).length=s.length+1+zs s.length+8:=by simp[pad,br,Qd];omega
def aa3 s:(pad s).length % 64=0:=by rw[FZ];unfold zs;omega
def nC s:br (ax s)=s:=by
 unfold br ax;rw[List.map_map];conv=>rhs;rw[<-List.map_id s]
 apply aan;simp_all
def Ab a b:br (a++b)=br a++br b:=by simp[br]
def Wy s (hn:s.length<=1048576):Loop lO (((),()),ax s++[128],())=aa (((),()),ax s++[128]++gN (zs s.length),()):=by
 have b:zs s.length<64:=Cy _ aF;have:=dc (f:=lO) (zs s.length) (λj=>(((),()),ax s++[128]++gN j,())) (λj a=>by
  unfold lO;have el:len (ax s++[128]++gN j)=((s.length+1+j:Nat):Int):=by unfold len;simp[ax,gN];omega
  rw[ar aF,ag,el,show((64:Int))=((64:Nat):Int) from rfl,wm,ar (by unfold zs at a;omega),show nt false=true from rfl,ai,ea (by simp only[plus,len,Sv];omega),ai,kI];congr 4;show ax s++[128]++gN j++[0]=_;rw[xW,show gN j++[0]=gN (j+1) from by simp[gN,List.replicate_succ']])
  (by (unfold lO;have el:len (ax s++[128]++gN (zs s.length))=((s.length+1+zs s.length:Nat):Int):=by unfold len;simp[ax,gN];omega);rw[ar aF,ag,el,show(64)=((64:Nat):Int) from rfl,wm,au (by unfold zs;omega),show nt true=false from rfl,ag,nB])
 have c:ax s++[128]++gN 0=ax s++[128]:=by simp[gN]
 grind
def acJ s b (hn:s.length<=1048576) (g:b.length<=2097152) u:Loop (fe (s,u)) (((),7,()),b,())=aa (((),-1,()),b++Qd s.length,()):=by
 have step:∀(k:Nat) c,k<=7->c.length<=2097160->fe (s,u) (((),k,()),c,())=aa (.inl (((),k-1,()),c++[jD s.length k],())):=by
  intro k c a d;unfold fe;dsimp only;have f:lg .i64 8 k=((8*k:Nat):Int):=by rw[C5 ah ah];omega
  rw[ f,ea (by simp only[plus,len,Sv];omega),du ah ah];rfl
 have e:∀c,fe (s,u) (((),(-1),()),c,())=aa (.inr (((),-1,()),c,())):=by intro c;unfold fe;dsimp only;rw[cO aF,ag,nB]
 have L:∀(k:Nat) c,k<=7->c.length<=2097160->Loop (fe (s,u)) (((),(k:Int),()),c,())=Loop (fe (s,u)) (((),k-1,()),c++[jD s.length k],()):=by intro k c a d;rw[aN,step k c a d];rfl
 refine(L 7 b ah ah).trans ((L 6 _ ah cR).trans<|(L 5 _ ah cR).trans<|(L 4 _ ah cR).trans<|(L 3 _ ah cR).trans<|(L 2 _ ah cR).trans<|(L 1 _ ah cR).trans<|(L 0 _ ah cR).trans ?_);have:b++[jD s.length 7]++[jD s.length 6]++[jD s.length 5]++[jD s.length 4]++[jD s.length 3]++[jD s.length 2]++[jD s.length 1]++[jD s.length 0]=b++Qd s.length:=by simp[Qd]
 rw[this,aN];rfl
def acK s (hn:s.length<=1048576):vg (s,())=aa (pad s,()):=by
 have a:zs s.length<64:=Cy _ aF;unfold vg;dsimp only;rw[ea dR,ea (by simp only[plus,len,Sv,kJ];omega),show app _ _=ax s++[128] from rfl,Wy s hn,ab,acJ s _ hn<|by simp[kJ,gN];omega,ab,Ab,Ab,Ab,nC];have:br (gN<|zs s.length)=List.replicate (zs s.length) 0:=by unfold br gN;rw[List.map_replicate];rfl
 rw[this];rfl
def Zm t (b:t.length % 64=0) (hn:t.length<=2097152) u:Loop (oO (t,u)) ((0,()),H0,())=aa (((t.length:Int),()),BC t<|t.length / 64,()):=by
 have:=dc (f:=oO (t,u)) (t.length / 64) (λj=>((((64*j:Nat):Int),()),BC t j,())) (λj c=>by
  unfold oO;dsimp only;rw[eV ah ah,bA dR,aM ah ah dR];have hs:sub t ((64*j:Nat):Int) (minus (((64*j:Nat):Int)+64) ((64*j:Nat):Int))=(t.drop<|64*j).take 64:=by unfold sub minus;grind
  rw[hs,acH _ (BD t j) _ (by rw[dw,rV];omega)];rfl)
  (by unfold oO;dsimp only;have a:64*(t.length / 64)=t.length:=ah;rw[a,eV ah ah,cO dR,ag,nB])
 exact this
def anU(h:List Int)(i:Nat):Int:=lj .u8 (jT .u32 (h.getD (i / 4) 0) ((24-8*(i % 4):Nat):Int))
def Wz(h:List Int):Nat->List Int|0=>gN 32|i+1=>(Wz h i).set i (anU h i)
def Da h i:(Wz h i).length=32:=by induction i with|zero=>rfl|succ i a=>simp[Wz,a]
def aa4:([0,0,0,0,0,0,0,0,0,0,0,0,0,0,0,0,0,0,0,0,0,0,0,0,0,0,0,0,0,0,0,0]:List Int)=gN 32:=rfl
def afX{a:Nat}(h:a<4611686018427387904):Ii .i64 a 4=((a / 4:Nat):Int):=by unfold Ii;have:=xE (a:=((a / 4):Int)) ah ah;unfold lj at this;grind
def WA{h o:List Int}(a:h.length=8)(b:o.length=32)(i:Nat)(c:i<32):Ii .i64 i 4=((i / 4:Nat):Int)/\cG .i64 24 (lg .i64 8<|gx i 4)=((24-8*(i % 4):Nat):Int):=by refine⟨afX ah,?_⟩;rw[show 4=((4:Nat):Int) from rfl,wm,C5 ah ah,du ah ah];omega
def ail h (a:h.length=8) q u:Loop (s8 (q,h,u)) ((0,()),gN 32,())=aa ((32,()),Wz h 32,()):=by
 refine dc 32 (λi=>(((i:Int),()),Wz h i,())) (λi b=>?_) ?_
 .have c:=Da h i;obtain⟨d,e⟩:=WA a c i b;unfold s8;dsimp only;rw[aH ah,d,aG ah ah,ai,fP h 0 ah,e,aG ah ah,fP _ 0 ah,aC ah]
  rfl
 unfold s8;dsimp only;rfl
def aim h w (f:h.length=8) g n (a b c d e:aj) r:Loop (lu (r,((g,h,a),w,n,b),c)) ((0,()),gN 32,())=aa ((32,()),Wz h 32,()):=by
 refine dc 32 (λi=>(((i:Int),()),Wz h i,())) (λi j=>?_) ?_
 .have k:=Da h i;obtain⟨l,m⟩:=WA f k i j;unfold lu;dsimp only;rw[aH ah,l,aG ah ah,ai,fP h 0 ah,m,aG ah ah,fP _ 0 ah,aC ah]
  rfl
 unfold lu;dsimp only;rfl
def sha(s:bb):List Int:=Wz (BC (pad s)<|(pad s).length / 64) 32
def uV s:(sha s).length=32:=Da _ _
def Zn s (hn:s.length<=1048576):zk (s,())=aa (sha s,()):=by have a:zs s.length<64:=Cy _ aF;unfold zk;rw[Qc,ab,acK s hn,ab,Zm _ (aa3 s) (by rw[FZ];omega),ab,aa4,ail _ (BD _ _),ab];dsimp only[sha]
def acL s (hn:s.length<=1152921504606840000) st (c:Inv st (s++[128])):∃a,Loop eI ((),st,())=aa ((),a,())/\Inv a (s++[128]++List.replicate (zs s.length) 0):=by
 have o:zs s.length<64:=Cy _ aF;have key:∀m j st,j+m=zs s.length->Inv st (s++[128]++List.replicate j 0)->∃a,Loop eI ((),st,())=aa ((),a,())/\Inv a (s++[128]++List.replicate (zs s.length) 0):=by intro m;induction m with|zero =>(intro j st f c;obtain rfl:j=zs s.length:=ah;refine⟨st,?_,c⟩;obtain⟨b,rfl,h,i⟩:=c;rw[aN];have:eI ((),((decide<|64<=(s++[128]++List.replicate (zs s.length) 0).length,(if 64<=(s++[128]++List.replicate (zs s.length) 0).length then BC (s++[128]++List.replicate (zs s.length) 0) ((s++[128]++List.replicate (zs s.length) 0).length / 64) else gN 8),()),b,((s++[128]++List.replicate (zs s.length) 0).length:Int),()),())=aa (.inr ((),((decide<|64<=(s++[128]++List.replicate (zs s.length) 0).length,(if 64<=(s++[128]++List.replicate (zs s.length) 0).length then BC (s++[128]++List.replicate (zs s.length) 0) ((s++[128]++List.replicate (zs s.length) 0).length / 64) else gN 8),()),b,((s++[128]++List.replicate (zs s.length) 0).length:Int),()),())):=by have k:(s++[128]++List.replicate (zs s.length) 0).length=s.length+1+zs s.length:=cR;unfold eI;rw[ar aF,ag,k,show(64)=((64:Nat):Int) from rfl,wm,au (by unfold zs;omega),show nt true=false from rfl,ag,nB]);grind|succ m l =>(intro j st f c;obtain⟨d,n,g⟩:=L2 [0] _ st c cR;obtain⟨a,p,q⟩:=l (j+1) d ah (by rw[xW,show List.replicate j (0:UInt8)++[0]=List.replicate _ 0 from by rw[List.replicate_succ']] at g;exact g));(rw[aN];have e:st.2.2.1=((s.length+1+j:Nat):Int):=by obtain⟨b,rfl,h,i⟩:=c;grind);(have:eI ((),st,())=aa (.inl ((),d,())):=by unfold eI;rw[ar aF,ag,e,show(64)=((64:Nat):Int) from rfl,wm,ar (by unfold zs at f;omega),show nt false=true from rfl,ai,n,ab,kI]);grind
 exact key (zs s.length) 0 st ah (by simpa using c)
def afY(n:Nat)(i:n<=1152921504606840000)(a:Wx)(b:a.2.2.1=n) u v:Loop (lr (u,a,v)) ((0,()),gN 8,())=aa ((8,()),Qd n,()):=by
 obtain⟨d,e,m,q⟩:=a;have step:∀(k:Nat) c,k<8->c.length=8->lr (u,(d,e,n,q),v) ((k,()),c,())=aa (.inl ((((k+1):Int),()),c.set (7-k)<|jD n k,())):=by
  intro k c f j;unfold lr;dsimp only;have g:lg .i64 8 k=((8*k:Nat):Int):=by rw[C5 ah ah];omega
  have h:cG .i64 7 k=((7-k:Nat):Int):=by rw[du ah ah];omega
  rw[aH ah,g,h,aG ah ah,fP c 0 ah,aC ah];rfl
 have:=dc 8 (λk=>(((k:Int),()),(match k with
  | 0=>gN 8
  | 1=>[0,0,0,0,0,0,0,jD n 0]
  | 2=>[0,0,0,0,0,0,jD n 1,jD n 0]
  | 3=>[0,0,0,0,0,jD n 2,jD n 1,jD n 0]
  | 4=>[0,0,0,0,jD n 3,jD n 2,jD n 1,jD n 0]
  | 5=>[0,0,0,jD n 4,jD n 3,jD n 2,jD n 1,jD n 0]
  | 6=>[0,0,jD n 5,jD n 4,jD n 3,jD n 2,jD n 1,jD n 0]
  | 7=>[0,jD n 6,jD n 5,jD n 4,jD n 3,jD n 2,jD n 1,jD n 0]
  | _=>Qd n),())) (λk f=>by rcases(by omega:k=0\/k=1\/k=2\/k=3\/k=4\/k=5\/k=6\/k=7) with rfl|rfl|rfl|rfl|rfl|rfl|rfl|rfl<;>exact(step _ _ ah rfl).trans rfl)
  (by rfl)
 grind
def aio s (hn:s.length<=1048576) st (h:Inv st s) u v:pB (u,st,v)=aa ((sha s,()),st,()):=by
 have o:zs s.length<64:=Cy _ aF;have b:st.2.2.1=s.length:=by obtain⟨a,rfl,_⟩:=h;rfl
 obtain⟨c,i,j⟩:=L2 [128] s st h cR;obtain⟨d,k,l⟩:=acL s ah c j;obtain⟨e,m,n⟩:=L2 (br<|Qd s.length) _ d l (by simp[br,Qd];omega);unfold pB;rw[aa4,show br _=[128] from rfl,i,ab,k,ab,show([0,0,0,0,0,0,0,0])=gN 8 from rfl,afY s.length ah st b,ab,aM aF aF aF,ai,show sub _ 0 _=Qd s.length from rfl,m,ab];have f:Inv e (pad s):=n;obtain⟨a,rfl,p,q⟩:=f;have g:64<=(pad s).length:=by have:=aa3 s;rw[FZ] at this⊢;omega
 simp only[g,y9];rw[aim _ _ (BD _ _) _ _ () () () () () (),ab];dsimp only[sha]
def Zo s (hn:s.length<=1048576):D2 (s,())=aa (sha s,()):=by obtain⟨a,b,c⟩:=L2 s [] afT anT cR;unfold D2;rw[show((false,([0,0,0,0,0,0,0,0]),()),([0,0,0,0,0,0,0,0,0,0,0,0,0,0,0,0,0,0,0,0,0,0,0,0,0,0,0,0,0,0,0,0,0,0,0,0,0,0,0,0,0,0,0,0,0,0,0,0,0,0,0,0,0,0,0,0,0,0,0,0,0,0,0,0]),_,())=afT from rfl,b,ab,aio s hn a<|by simpa using c,ab]
def Qe:bb:=[48,49,50,51,52,53,54,55,56,57,97,98,99,100,101,102]
def hx(n:Nat):UInt8:=Qe.getD n 0
def wo:bb->bb|[]=>[]|b::r=>hx (b.toNat / 16)::hx (b.toNat % 16)::wo r
def kK l:(wo l).length=2*l.length:=by induction l with|nil=>rfl|cons b r a=>simp only[wo,iV];omega
def afZ a b:wo (a++b)=wo a++wo b:=by induction a with|nil=>rfl|cons x r c=>simp only[Mi,wo,c]
def aip:∀n:Fin 256,idx Qe (jT .u8 (n.val:Int) 4)=aa (hx<|n.val / 16):=by decide +kernel
def aiq:∀n:Fin 256,idx Qe (hL .u8 (n.val:Int) 15)=aa (hx<|n.val % 16):=by decide +kernel
def akl b:idx Qe (jT .u8 (u8 b) 4)=aa (hx<|b.toNat / 16):=aip ⟨b.toNat,b.toNat_lt⟩
def akm b:idx Qe (hL .u8 (u8 b) 15)=aa (hx<|b.toNat % 16):=aiq ⟨b.toNat,b.toNat_lt⟩
def AL s {k:Nat} h:idx (ax s) k=aa (u8 s[k]):=by rw[s6];simp[ax,u8,h]
def L3(s:bb){k:Nat} h:idx s k=aa s[k]:=by rw[s6];simp
def mh s:len (ax s)=(s.length:Int):=by simp[len,ax]
def TV(s:bb){k} h:s.take (k+1)=s.take k++[s[k]]:=by rw[xX,ft h];rfl
def aa5(s:bb){k} h:ax (wo<|s.take<|k+1)=(ax (wo<|s.take k)++[u8<|hx<|s[k].toNat / 16])++[u8<|hx<|s[k].toNat % 16]:=by rw[TV s h,afZ,E5,xW];rfl
def af0(s:bb)(a:s.length<=1048576){k}(h:k<s.length)(x y:Int) :
  fits (plus (len<|ax<|wo<|s.take k)<|len [x])=true/\fits (plus (len<|ax (wo<|s.take k)++[x])<|len [y])=true:=by
 constructor
 .apply ea;rw[mh,kK];simp only[dw,plus,len,iV,qv];omega
 .apply ea;have:(ax (wo<|s.take k)++[x]).length=2*min k s.length+1:=by rw[iU,kJ,kK,dw];rfl
  simp only[plus,len,iV,qv];omega
def TW s (hs:s.length<=1048576):mD (s,())=aa (wo s,()):=by
 unfold mD;rw[ea<|by simp only[len];omega,ai];have key:Loop (nd (s,())) ((0,()),((),(),()),[],())=aa (((s.length:Int),()),((),(),()),ax<|wo s,()):=by
  have:=dc (f:=nd (s,())) s.length (λk=>((k,()),((),(),()),ax<|wo _,())) (λk a=>by
   unfold nd;dsimp only;obtain⟨b,c⟩:=af0 s hs a _ _;rw[mh,aH ah,ai,aG ah ah,ai,AL s a,ab,aB aF,ag,show([48,49,50,51,52,53,54,55,56,57,97,98,99,100,101,102])=Qe from rfl,akl,ab,b,ai,akm,ab];unfold app;rw[c,ai,kI,aC ah,aa5 s a]) (by
   unfold nd;dsimp only;rw[mh,aB ah,ag,nB,zJ])
  exact this
 rw[key,ab,nC]
def anV:∀n:Fin 16,qA ((n.val:Int),())=aa (u8<|hx n.val,()):=by decide +kernel
def aa6{n:Nat}(h:n<16):qA (n,())=aa (u8<|hx n,()):=anV ⟨n,h⟩
def af1:∀n:Fin 256,Ii .i64 (lj .i64 (n.val:Int)) 16=((n.val / 16:Nat):Int):=by decide +kernel
def af2:∀n:Fin 256,gx (lj .i64 (n.val:Int)) 16=((n.val % 16:Nat):Int):=by decide +kernel
def akn b:Ii .i64 (lj .i64<|u8 b) 16=((b.toNat / 16:Nat):Int):=af1 ⟨b.toNat,b.toNat_lt⟩
def ako b:gx (lj .i64<|u8 b) 16=((b.toNat % 16:Nat):Int):=af2 ⟨b.toNat,b.toNat_lt⟩
def N0 s (hs:s.length<=1048576):v8 (s,())=aa (wo s,()):=by
 unfold v8;have key:Loop (oQ (s,())) (((),0,()),[],())=aa (((),(s.length:Int),()),ax<|wo s,()):=by
  have:=dc (f:=oQ (s,())) s.length (λk=>(((),k,()),ax _,())) (λk a=>by
   unfold oQ;dsimp only;obtain⟨b,c⟩:=af0 s hs a _ _;have d:=s[k].toNat_lt;rw[show len s=s.length from rfl,aH ah,ai,L3 s a,ab,ar aF,ag,akn,aa6 ah,ab];dsimp only;rw[b,ai,ab,ag,ako,aa6 ah,ab];unfold app;rw[c,ai,kI,aC ah,aa5 s a]) (by
   unfold oQ;dsimp only;rw[show len s=s.length from rfl,aB ah,ag,nB,zJ])
  exact this
 rw[key,ab,nC]
def hv(c:UInt8):Int:=Lib.indexByte Qe c
def ajz:∀n:Fin 16,hv (hx n.val)=(n.val:Int):=by decide +kernel
def af3{a b}(h:u8 a=u8 b):a=b:=by
 have:a.toNat=b.toNat:=by unfold u8 at h;omega
 exact UZ.1 this
def I9:bb->Option bb|[]=>aa []|[_]=>af|a::b::r=>if hv a<0\/hv b<0 then af else(I9 r).map (UInt8.ofNat (16*(hv a).toNat+(hv b).toNat)::·)
def af4(l:bb) k (h:k<=l.length):sub l k (minus (len l) k)=l.drop k:=by unfold sub minus len;rw[uB,KE (by rw[rV];omega)]
def AM{a b:Nat}(h:a+b<4611686018427387904):aw .i64 a b=((a+b:Nat):Int):=by rw[eV ah ah];omega
def Ja:∀l,I9 (wo l)=aa l:=by intro l;induction l with|nil=>rfl|cons b r a =>have c:=b.toNat_lt;simp only[wo,I9,(ajz ⟨b.toNat / 16,ah⟩),(ajz ⟨b.toNat % 16,ah⟩),a];rw[aK ah,uB,uB,show 16*_+b.toNat % 16=b.toNat by omega];simp
def anW:bb:=[115,104,97,50,53,54,58]
def TX(s:bb):bb:=anW++wo (br<|sha s)
def Rs{α}(l:List α) n (h:l.length=n):sub l 0 (minus n 0)=l:=by unfold sub minus;rw[show((0:Int).toNat)=0 from rfl,EA,KE ah]
def af5 s (hs:s.length<=1048576):oP (s,())=aa (TX s,()):=by unfold oP;rw[Zo s hs,ab,show sub _ 0 (minus 32 0)=sha s from Rs _ 32 (uV s),TW _ (by simp[br,uV]),ab];dsimp only;rw[ea<|by simp only[plus,len,kK,br,zK,uV,iV,qv];omega];rfl
def Rt s (hs:s.length<=1048576):uJ (s,())=aa (TX s,()):=by unfold uJ;rw[Zn s hs,ab,show sub _ 0 (minus 32 0)=sha s from Rs _ 32 (uV s),N0 _ (by simp[br,uV]),ab];dsimp only;rw[ea<|by simp only[plus,len,kK,br,zK,uV,iV,qv];omega];rfl
def WB(l:bb)(k:Nat):sub l 0 (minus k 0)=l.take k:=by unfold sub minus;rw[show((0:Int).toNat)=0 from rfl,EA,aeG,uB]
set_option maxRecDepth 100000
def dx(p:UInt8->Bool)(s:bb):bb:=(s.reverse.dropWhile p).reverse
def yD{p} s {x} (h:p x=true):dx p (s++[x])=dx p s:=by simp[dx,h]
def Ac{p} s {x} (h:p x=false):dx p (s++[x])=s++[x]:=by simp[dx,h]
def Ru{p}:∀z s,(∀x∈z,p x=true)->dx p (s++z)=dx p s:=by intro z;induction z with|nil=>intro s _;rw[uC]|cons x r a =>intro s h;rw[show s++x::r=(s++[x])++r by simp,a _ (λy b=>h y (wZ _ b)),yD s (h x<|rU ..)]
def af6{p s}(h:∀x,s.getLast?=aa x->p x=false):dx p s=s:=by
 rcases aal s with rfl|⟨r,x,rfl⟩
 {rfl};have:=h x aT;rw[aeh];exact Ac r this
def WC(r:bb) x (a:r.length<=1048576):cG .i64 (len<|r++[x]) 1=(r.length:Int)/\idx (r++[x]) (r.length:Int)=aa x:=by
 constructor
 .have:len (r++[x])=((r.length+1):Int):=by simp[len]
  rw[ du ah ah];omega
 rw[s6];simp
def Qf c:∀n s,s.length<=n->s.length<=1048576->∀q,Loop (fE (q,c,())) ((s,()),())=aa ((dx (λx=>aD (u8 x) c) s,()),()):=by intro n;induction n with|zero =>(intro s h _ q;obtain rfl:s=[]:=zI.1 ah;rw[aN];rfl)|succ n f =>intro s h a q;rcases aal s with rfl|⟨r,x,rfl⟩;{grind};(rw[aeh] at h a⊢;rw[iU] at h a;obtain⟨b,d⟩:=WC r x ah;rw[aN];have e:fE (q,c,()) ((r++[x],()),())=if aD (u8 x) c=true then aa (.inl ((r,()),())) else aa (.inr ((r++[x],()),())):=by unfold fE;rw[aH<|by simp only[len,iU,iV];omega,ai,b,d,ab,ab];cases hx:aD _ c with|true =>rw[ai,aM ah ah (by simp only[len,iU];omega),ai,kI,show sub _ 0 _=r from by rw[WB];simp,aQ rfl]|false=>rw[ag,nB,aK aT]);rw[e];cases hx:aD _ c with|true =>rw[ yD r hx];grind|false =>rw[ Ac r hx];rfl
def zz s c (hs:s.length<=1048576):ff (s,c,())=aa (dx (λx=>aD (u8 x) c) s,()):=by unfold ff;rw[Qf c s.length s (b0 _) hs s,ab]
def dk(x:UInt8):Bool:=aD (u8 x) 0
def AN x:dk x=true↔x=0:=by
 unfold dk aD;rw[QO];constructor
 {intro h;exact af3 h};rintro rfl;rfl
def Qg s (hs:s.length<=1048576):eJ (s,[0],())=aa (dx dk s,()):=by
 unfold eJ;by_cases h:s=[]
 .subst h;rfl
 rw[show bg s []=false from cf h,aE,ai,show aD _ 1=true from rfl,ai,show idx ([0]:bb) 0=aa 0 from rfl,ab,ab,ab,zz s _ hs]
 rfl
def yE:List Bool:=((List.replicate 256 false).set 0 true).set 32 true
def Cq(x:UInt8):Bool:=yE.getD x.toNat false
def TY:yE.length=256:=by simp only[yE,aet,aed]
def akp:∀n:Fin 256,yE.getD n.val false=(decide (n.val=0)||decide (n.val=32)):=by decide +kernel
def WD x:Cq x=true↔x=0\/x=32:=by
 unfold Cq;rw[akp ⟨x.toNat,x.toNat_lt⟩];simp;constructor
 {rintro(h|h);{exact .inl (UZ.1 h)};exact .inr (UZ.1 h)};rintro(rfl|rfl);{grind};grind
def TZ x:cS ((u8 x,()),yE,())=aa ((Cq x,()),yE,()):=by unfold cS;have hx:=x.toNat_lt;have e:u8 x=x.toNat:=rfl;dsimp only;rw[e,aG ah ah,fP yE false (by show _<yE.length;rw[TY];omega)];rfl
def WE:eu ([0,32],())=aa (yE,true,()):=by
 have key:Loop (eH ([0,32],())) ((false,0,()),List.replicate 256 false,())=aa (0,(false,2,()),yE,()):=by rw[aN];show Loop _ _=_;rw[aN];show Loop _ _=_;rw[aN];rfl
 exact(congrArg (ae · _) key).trans rfl
def WG:∀n s,s.length<=n->s.length<=1048576->Loop cT ((s,()),yE,())=aa ((dx Cq s,()),yE,()):=by intro n;induction n with|zero =>(intro s h _;obtain rfl:s=[]:=zI.1 ah;rw[aN];rfl)|succ n e =>intro s h a;rcases aal s with rfl|⟨r,x,rfl⟩;{grind};(rw[aeh] at h a⊢;rw[iU] at h a;obtain⟨b,c⟩:=WC r x ah;rw[aN];have d:cT ((r++[x],()),yE,())=if Cq x=true then aa (.inl ((r,()),yE,())) else aa (.inr ((r++[x],()),yE,())):=by unfold cT;rw[aH<|by simp only[len,iU,iV];omega,ai,b,c,ab,TZ,ab];cases hx:Cq x with|true =>rw[aW,ag,aM ah ah (by simp only[len,iU];omega),ai,kI,show sub _ 0 _=r from by rw[WB];simp,aQ rfl]|false=>rw[aE,ai,nB,aK aT]);rw[d];cases hx:Cq x with|true =>rw[ yD r hx];grind|false =>rw[ Ac r hx];rfl
def HK s (hs:s.length<=1048576):eJ (s,[0,32],())=aa (dx Cq s,()):=by
 unfold eJ;by_cases h:s=[]
 {subst h;rfl};rw[show bg s []=false from cf h,aE,ai,show bg [0,32] []=false from rfl,ag,show aD _ 1=false from rfl,ag,ab,WE,ab];unfold dT;rw[WG s.length s (b0 _) hs];rfl
def Qh c:∀n s,s.length<=n->∀q,Loop (gb (q,c,())) ((s,()),())=aa ((s.dropWhile<|λx=>aD (u8 x) c,()),()):=by intro n;induction n with|zero =>(intro s h q;obtain rfl:s=[]:=zI.1 ah;rw[aN];rfl)|succ n a =>intro s h q;cases s with|nil=>rw[aN];rfl|cons x r =>(rw[aN];have b:gb (q,c,()) ((x::r,()),())=if aD (u8 x) c=true then aa (.inl ((r,()),())) else aa (.inr ((x::r,()),())):=by unfold gb;rw[aH<|by simp only[len,iV];omega,ai,show idx _ 0=aa x from rfl,ab,ab];cases hx:aD _ c with|true =>rw[ai,aM aF (by simp only[len,iV];omega) (uh _),ai,kI,show sub _ 1 _=r from af4 _ 1 aT,aQ rfl]|false=>rw[ag,nB,aK aT]);rw[ UT];grind
def Jb s c:ix (s,c,())=aa (s.dropWhile<|λx=>aD (u8 x) c,()):=by unfold ix;rw[Qh c s.length s (b0 _) s,ab]
def Jc{p}{l:bb}{x}(h:x∈l.takeWhile p):p x=true:=w8.1 List.all_takeWhile x h
def WH s (hs:s.length<=1048576):jb (s,[0],())=aa ((dx dk s).dropWhile dk,()):=by
 unfold jb;by_cases h:s=[]
 .subst h;rfl
 rw[show bg s []=false from cf h,aE,ai,show aD _ 1=true from rfl,ai,show idx ([0]:bb) 0=aa 0 from rfl,ab,ab,ab,zz s _ hs,ab,ab,Jb]
 rfl
def BE s:(dx dk s).dropWhile dk=[]↔∀x∈s,x=0:=by
 constructor
 .intro h;have e:∀x∈dx dk s,dk x=true:=by intro x a;have:=Cm (p:=dk) (l:=dx dk s);rw[h,uC] at this;rw[<-this] at a;exact Jc a
  have b:dx dk s=[]:=by rcases aal _ with b|⟨r,x,b⟩;{exact b};(exfalso;have a:=e x (by rw[b];simp);unfold dx at b;have c:(s.reverse.dropWhile dk)=x::r.reverse:=by grind);have:=List.head?_dropWhile_not dk s.reverse;grind
  intro x a;have c:s.reverse.dropWhile dk=[]:=by have:=congrArg List.reverse b;simpa [dx] using this
  have:=Cm (p:=dk) (l:=s.reverse);rw[c,uC] at this;have d:=List.mem_reverse.2 a;rw[<-this] at d;exact(AN x).1 (Jc d)
 intro h;have:dx dk s=[]:=by have:=Ru s [] (λx a=>(AN x).2 (h x a));exact this
 simp_all
def N1 b (c:b.length<=1048576):vi (b,())=aa (decide (b.length=512/\∀x∈b,x=0),()):=by
 unfold vi;by_cases h:b.length=512
 {rw[au<|by simp only[len];omega,ai,WH b c,ab,ab];unfold bg;by_cases a:∀x∈b,x=0;{rw[cW<|(BE b).2 a,cW ⟨h,a⟩]};rw[cf<|λe=>a ((BE b).1 e),cf λe=>a e.2]};rw[ar<|by simp only[len];omega,ag,ab,cf λe=>h e.1]
end Go.Ge
namespace Go.Ge
variable [Lp]
def ajA:∀d:Fin 8,lj .i64 (cG .u8 ((48+d.val:Nat):Int) 48)=(d.val:Int):=by decide +kernel
def anX{v d:Nat}(a:d<8)(g:8*v+d<9223372036854775808):A5 .i64 (oD .i64 v 3) (lj .i64<|cG .u8 ((48+d:Nat):Int) 48)=((8*v+d:Nat):Int):=by
 rw[ajA ⟨d,a⟩];have b:oD .i64 v 3=((8*v:Nat):Int):=by unfold oD;rw[show min _ IntKind.i64.bits=3 from rfl,show v*2 ^ 3=((8*v):Int) by omega];exact xE ah ah
 rw[b];unfold A5;have e:(BitVec.ofInt IntKind.i64.bits ((8*v:Nat):Int) ||| BitVec.ofInt IntKind.i64.bits (d:Int)).toNat=8*v+d:=by
  rw[BitVec.toNat_or];have c:(BitVec.ofInt IntKind.i64.bits ((8*v:Nat):Int)).toNat=2 ^ 3*v:=by rw[ael,show(IntKind.i64.bits)=64 from rfl];omega
  have f:(BitVec.ofInt IntKind.i64.bits d).toNat=d:=by rw[ael,show(IntKind.i64.bits)=64 from rfl];omega
  rw[c,f,<-Nat.two_pow_add_eq_or_of_lt a]
 rw[e];exact xE ah ah
def AO(s:bb):Prop:=∀x∈s,x≠0
instance (s:bb):Decidable (AO s):=inferInstanceAs (Decidable (∀x∈s,x≠0))
def Jd:∀s,decide (Lib.indexByte s 0<0)=decide (AO s):=by intro s;induction s with|nil=>rfl|cons b r a =>unfold Lib.indexByte;by_cases d:b=0;{subst d;rw[aQ<|by rfl,cf aF,cf λh=>h 0 (rU ..) rfl]};rw[aK<|by simpa using d];by_cases c:AO r;{rw[cW c] at a;have e:=fy a;have g:=(B5 0 r).1;have f:Lib.indexByte r 0=-1:=ah;rw[f,cW aF,cW];intro x hx;rcases fA.1 hx with rfl|hx;{exact d};exact c x hx};rw[cf c] at a;have e:=xV a;rw[aK cR,cf ah,cf];intro h;exact c λx hx=>h x (wZ _ hx)
def HL s:dC (s,0,())=aa (Lib.indexByte s 0,()):=rfl
def HM s (hs:s.length<=1048576):kU (s,())=aa (dx dk s,decide<|AO<|dx dk s,()):=by unfold kU;rw[Qg s hs,ab,HL,ab];unfold aL;rw[Jd]
abbrev Hd:=bb×Int×Int×Int×Int×Int×Int×bb×aj
def clr(s:bb)(a:Int):Prop:=s≠[]/\(s.length:Int)<=a/\AO s
instance (s:bb) (a:Int):Decidable (clr s a):=inferInstanceAs (Decidable<|_/\_/\_)
def T0(n b:Int):Prop:=0<=n/\n<b
instance (n b:Int):Decidable (T0 n b):=inferInstanceAs (Decidable<|_/\_)
def kindOk(h:Hd):Prop:=(h.2.1=1/\h.2.2.2.2.2.2.2.1=[])\/(h.2.1=2/\h.2.2.2.2.2.2.2.1=[]/\h.2.2.2.2.2.1=0)\/(h.2.1=3/\clr h.2.2.2.2.2.2.2.1 100/\h.2.2.2.2.2.1=0)
instance (h:Hd):Decidable (kindOk h):=inferInstanceAs (Decidable<|_\/_\/_)
def Qi(h:Hd)(a:Int):Prop:=T0 h.2.2.1 2097152/\T0 h.2.2.2.1 2097152/\T0 h.2.2.2.2.1 2097152/\T0 h.2.2.2.2.2.1 8589934592/\T0 h.2.2.2.2.2.2.1 8589934592/\clr h.1 a/\kindOk h
instance (h:Hd) (a:Int):Decidable (Qi h a):=inferInstanceAs (Decidable<|_/\_/\_/\_/\_/\_/\_)
def F0 n b:mr (n,b,())=aa (decide<|T0 n b,()):=by
 unfold mr;by_cases h:0<=n
 {rw[bA h,ai];unfold aL T0;simp[h]};rw[cO ah,ag,cf λe=>h e.1]
def Rv s m:oR (s,m,())=aa (decide<|clr s m,()):=by
 unfold oR;by_cases h:s=[]
 {subst h;rw[show bg [] []=true from rfl,aW,ag,ag,ab,cf λe=>e.1 rfl]};rw[show bg s []=false from cf h,aE,ai];by_cases a:s.length<=m;{rw[bA<|by exact a,ai,HL,ab,ab];unfold aL;rw[Jd];unfold clr;simp[h,a]};rw[cO<|by simp only[len];omega,ag,ab,cf λe=>a e.2.1]
def WI(h:Hd) m:sq (h,m,())=aa (decide<|Qi h m,()):=by
 unfold sq;by_cases d:T0 h.2.2.1 2097152;case neg=>rw[F0,ab,cf d,ag,ab,ag,ab,ag,ab,ag,ab,aE,aW,ag,ab,ai,cf λe=>d e.1]
 rw[F0,ab,cW d,ai,F0,ab,ab];by_cases f:T0 h.2.2.2.1 2097152;case neg=>rw[cf f,ag,ab,ag,ab,ag,ab,aE,aW,ag,ab,ai,cf λe=>f e.2.1]
 rw[cW f,ai,F0,ab,ab];by_cases g:T0 h.2.2.2.2.1 2097152;case neg=>rw[cf g,ag,ab,ag,ab,aE,aW,ag,ab,ai,cf λe=>g e.2.2.1]
 rw[cW g,ai,F0,ab,ab];by_cases i:T0 h.2.2.2.2.2.1 8589934592;case neg=>rw[cf i,ag,ab,aE,aW,ag,ab,ai,cf λe=>i e.2.2.2.1]
 rw[cW i,ai,F0,ab,ab];by_cases j:T0 h.2.2.2.2.2.2.1 8589934592;case neg=>rw[cf j,aE,aW,ag,ab,ai,cf λe=>j e.2.2.2.2.1]
 rw[cW j,aW,aE,ai,Rv,ab,ab];by_cases k:clr h.1 m;case neg=>rw[cf k,aE,ai,cf λe=>k e.2.2.2.2.2.1]
 rw[cW k,aW,ag,(gG.2 ⟨λe=>e.2.2.2.2.2.2,λe=>⟨d,f,g,i,j,k,e⟩⟩)];by_cases l:h.2.1=1
 {rw[l,kv,ai];unfold bg;rw[show decide _=decide (kindOk h) from gG.2 (by unfold kindOk;simp[l])]};rw[ar l,ag];by_cases b:h.2.1=2;{rw[b,kv,ai];unfold bg aD;by_cases a:h.2.2.2.2.2.2.2.1=[];{rw[cW a,ai,show decide (h.2.2.2.2.2.1=0)=decide (kindOk h) from gG.2 (by unfold kindOk;simp[b,a])]};rw[cf a,ag,show decide (kindOk h)=false from cf (by unfold kindOk;simp[b,a])]};rw[ar b,ag];by_cases c:h.2.1=3;{rw[c,kv,ai,Rv,ab];unfold aD;by_cases a:clr h.2.2.2.2.2.2.2.1 100;{rw[cW a,ai,show decide _=decide (kindOk h) from gG.2 (by unfold kindOk;simp[c,a])]};rw[cf a,ag,show decide _=false from cf (by unfold kindOk;simp[c,a])]};rw[ar c,ag,show decide _=false from cf (by unfold kindOk;simp[l,b,c])]
def cM:bb->List bb|[]=>[[]]|b::r=>if b=47 then []::cM r else match cM r with|h::t=>(b::h)::t|[]=>[[b]]
def qg s:cM s≠[]:=by cases s with|nil=>simp[cM]|cons b r =>unfold cM;grind
def kL{b}(h:b≠47){r x t}(e:cM r=x::t):cM (b::r)=(b::x)::t:=by rw[cM,aK h,e]
def parts(p:bb):List bb:=if p=[] then [] else cM p
def WJ{b}(h:b≠47):∀k r x t,Lib.splitK [47] 0 k r=x::t->Lib.splitK [47] 0 k (b::r)=(b::x)::t:=by intro k r x t e;cases k with|zero=>simp[Lib.splitK] at e⊢;exact⟨by rw[e.1],e.2⟩|succ k =>(have a:Lib.index (b::r) [47]=if Lib.index r [47]==-1 then -1 else Lib.index r [47]+1:=by rw[Lib.index];grind);have d:=Lib.index_ge r [47];unfold Lib.splitK at e⊢;rw[a];by_cases c:(Lib.index r [47]==-1)=true;{grind};(rw[aK c] at e⊢;have f:Lib.index r [47]≠-1:=λq=>c (by rw[q];rfl);have hn:¬((Lib.index r [47]+1==-1)=true):=λq=>by have:=beq_iff_eq.1 q;omega);obtain⟨j,g⟩:∃j:Nat,Lib.index r [47]=j:=⟨(Lib.index r [47]).toNat,ah⟩;simp_all
def T1 k r:Lib.splitK [47] 0 (k+1) (47::r)=[]::Lib.splitK [47] 0 k r:=by
 have a:Lib.index (47::r) [47]=0:=by rw[Lib.index];simp
 rw[Lib.splitK,a];simp
def acM:∀s k,s.count 47<=k->Lib.splitK [47] 0 k s=cM s:=by intro s;induction s with|nil =>(intro k _;cases k with|zero=>rfl|succ k=>simp[Lib.splitK,cM,Lib.index])|cons b r d =>intro k a;by_cases h:b=47;{subst h;obtain⟨c,rfl⟩:∃c,k=c+1:=⟨k-1,by rw[List.count_cons_self] at a;omega⟩;rw[T1,d c (by rw[List.count_cons_self] at a;omega),cM,aQ rfl]};have:=d k (by rwa [List.count_cons_of_ne h] at a);cases hs:cM r with|nil=>exact absurd hs (qg r)|cons x t =>rw[hs] at this;rw[WJ h k r x t this,kL h hs]
def af8 s:Lib.split s [47]=cM s:=acM s _ (by rw[Lib.count_one];apply b0)
def aa7 c:aD (u8 c) 47=decide (c=47):=E4 (n:=47)
def al9 c:aD (u8 c) 0=decide (c=0):=E4 (n:=0)
def sz p (a:p.length<=1048576):fw (p,())=aa (parts p,()):=by
 unfold fw parts;by_cases h:p=[]
 .rw[ch h,ai,aQ h]
 rw[aY h,ag,aK h];have:wG (p,[47],())=aa (cM p,()):=by show(D1 p [47]).map _=_;unfold D1;simp only;rw[aQ ah,af8];rfl
 rw[this,ab]
def iG p (v:p.length<=1048576):ep (p,())=aa (parts p,()):=by
 unfold ep parts;by_cases h:p=[]
 .rw[ch h,ai,aQ h]
 rw[aY h,ag,aK h];have key:=qO (f:=lS (p,())) p (λs i=>(((),s.1,i,()),s.2,()))
  (λi s x=>aa (.inl<|if x=47 then([],s.2++[s.1]) else(s.1++[x],s.2))) (λi s=>(((),s.1,i,()),s.2,())) (λi s=>s.1.length<=i/\s.2.length<=i) (λs i x k u n=>by unfold lS;dsimp only;rw[al u,ai,ao k,ab,aa7];by_cases b:x=47;{rw[cW b,ai,aJ cR,aC ah];simp only[aQ b];rfl};rw[cf b,ag,aC ah,jC ah ah,sub_one k,aJ cR];simp only[aK b];rfl)
  (λs i x w k n hs=>by obtain rfl:=U5 (aI hs);by_cases b:x=47;{grind};simp only[aK b,iU,iV,qv];omega)
  (λs n=>by unfold lS;rw[aq];rfl)
  (λs i x _ _ h=>by cases h) ([],[]) ⟨b0 _,b0 _⟩
 have run:∀r i a o,∃d c j,wg (λi s x=>aa (.inl<|if x=47 then([],s.2++[s.1]) else(s.1++[x],s.2))) (λi s=>(((),s.1,(i:Int),()),s.2,())) r i (a,o)=aa (((),d,j,()),c,()) /\
   c++[d]=o++(match cM r with|h::t=>(a++h)::t|[]=>[a])/\c.length<=o.length+r.length:=by
  intro r;induction r with|nil=>intro i a o;exact⟨a,o,_,rfl,by simp[cM],aT⟩|cons x r q =>intro i a o;by_cases b:x=47;{obtain⟨d,c,j,l,e,m⟩:=q (i+1) [] (o++[a]);refine⟨d,c,j,?_,?_,?_⟩;{unfold wg;grind};{rw[e,cM,aQ b];cases hs:cM r with|nil=>exact absurd hs (qg r)|cons h t=>simp};grind};obtain⟨d,c,j,l,e,m⟩:=q (i+1) (a++[x]) o;refine⟨d,c,j,?_,?_,?_⟩;{unfold wg;grind};{rw[e];cases hs:cM r with|nil=>exact absurd hs (qg r)|cons h t=>rw[kL b hs];simp};grind
 obtain⟨d,c,j,l,e,m⟩:=run p 0 [] [];have g:Loop (lS _) (((),([]),0,()),_)=aa _:=key.trans l;rw[g,ab];simp at m;rw[aJ cR,ai,ib,e];cases hs:cM p with|nil=>exact absurd hs (qg p)|cons h t=>simp
def aS:List bb->bb|[]=>[]|[x]=>x|x::y::r=>x++47::aS (y::r)
def af9 l:Lib.join l [47]=aS l:=by induction l with|nil=>rfl|cons x r a =>cases r with|nil=>simp[Lib.join_one,aS]|cons y r =>rw[aS,<-a,Lib.join_cons,Lib.join_cons];simp[Lib.joinTail]
def xH s:aS (cM s)=s:=by induction s with|nil=>rfl|cons b r a =>by_cases h:b=47;{subst h;rw[cM,aQ rfl];cases hs:cM r with|nil=>exact absurd hs (qg r)|cons x t=>rw[aS,<-hs,a];rfl};cases hs:cM r with|nil=>exact absurd hs (qg r)|cons x t =>rw[kL h hs];rw[hs] at a;cases t with|nil=>rw[aS] at a⊢;rw[a]|cons y t=>rw[aS] at a⊢;rw[Mi,a]
def dV p:aS (parts p)=p:=by
 unfold parts;by_cases h:p=[]
 {rw[ h];rfl};rw[aK h,xH]
def F1 x (hx:47∉x) r:cM (x++47::r)=x::cM r:=by induction x with|nil=>rw[Mj,cM,aQ rfl]|cons b x a =>simp at hx;exact kL (λe=>hx.1 e.symm) (a hx.2)
def qh x (hx:47∉x):cM x=[x]:=by induction x with|nil=>rfl|cons b x a =>simp at hx;exact kL (λe=>hx.1 e.symm) (a hx.2)
def HN l (a:l≠[]) (h:∀x∈l,47∉x):cM (aS l)=l:=by induction l with|nil=>exact absurd rfl a|cons x r b =>cases r with|nil=>exact qh x (h x<|rU ..)|cons y r =>rw[aS,F1 x (h x<|rU ..),b aT λz c=>h z (wZ _ c)]
def Zp s:∀x∈cM s,47∉x/\x.length<=s.length:=by induction s with|nil=>intro x a;simp[cM] at a;subst a;simp|cons b r c =>intro x a;by_cases h:b=47;{rw[cM] at a;grind};cases hs:cM r with|nil=>exact absurd hs (qg r)|cons y t =>rw[kL h hs] at a;grind
def E6 s:(cM s).length<=s.length+1:=by induction s with|nil=>simp[cM]|cons b r a =>by_cases h:b=47;{rw[cM,aQ h];simp;omega};cases hs:cM r with|nil=>exact absurd hs (qg r)|cons y t=>rw[kL h hs];rw[hs] at a;simp at a⊢;omega
def Rw p:∀x∈parts p,47∉x/\x.length<=p.length:=by
 unfold parts;by_cases h:p=[]
 {grind};rw[aK h];exact Zp p
def fQ p:(parts p).length<=p.length+1:=by
 unfold parts;by_cases h:p=[]
 {grind};rw[aK h];exact E6 p
def kM l (h:∀x∈l,47∉x/\x≠[]):parts (aS l)=l:=by unfold parts;cases l with|nil=>rfl|cons x r =>(have a:aS (x::r)≠[]:=by have:=(h x<|rU ..).2;cases r with|nil=>exact this|cons y r=>rw[aS];simp);rw[aK a,HN _ aT λz b=>(h z b).1]
end Go.Ge
