import Derived.Test.YtcebnmppipejfaaGreatDoorPlC
set_option linter.unusedSectionVars false
set_option linter.unusedVariables false
set_option linter.unusedSimpArgs false
set_option linter.defProp false
open Option renaming some->aa,none->af
open Go.IntKind (i64)
namespace Go.Ge
variable [Lp]
set_option maxRecDepth 100000
def allowed:Tx:=[97,98,99,100,101,102,103,104,105,106,107,108,109,110,111,112,113,114,115,116,117,118,119,120,121,122,48,49,50,51,52,53,54,55,56,57,46,95,45]
def WT(c:UInt8):Bool:=allowed.contains c
def fh(s:Tx):Bool:=decide (1<=s.length)&&decide (s.length<=32)&&s.all WT
def aev(a:Tx)(b:List Bool):List Bool:=(a.zipIdx).foldl (λt p=>oo t (u8 p.1) true) b
def HU:List Bool:=List.replicate 256 false
def apt c:u8 c<256:=by unfold u8;have:=c.toNat_lt;omega
def apu c:0<=u8 c:=by unfold u8;omega
def UX c:within (u8 c) 256=true:=aO (apu c) (apt c)
def ajd{t}(h:t.length=256) c:idx t (u8 c)=aa (t.getD c.toNat false):=nO t false rfl (by have:=c.toNat_lt;omega)
def Tl(a:Tx)(j:a.length<=4294967296)(k:∀c∈a,c<128):eu (a,())=aa (aev a HU,true,()):=by
 unfold eu;obtain⟨t,o,l,m⟩:=sz (f:=eB (a,())) a (λt i=>((false,i,()),t,())) (λt i x=>oo t _ true) _ (λt _=>t.length=256) j
  (λt i x h n b e=>by (refine⟨?_,by simp[oo,e]⟩;unfold eB;have d:u8 x<128:=by unfold u8;have:x.toNat<128:=(k x<|bp.2 ⟨i,h⟩);omega);rw[aq n,aj,au h,ab,cN d,ag,UX,aj,ajd e,ab,ab,ab,b])
  (λt e=>by unfold eB;rw[aw];rfl) HU (by simp[HU])
 have g:Loop _ _=_:=l;rw[show(List.replicate 256 false)=HU from rfl,g,m];rfl
def anT c:(aev allowed HU).getD c.toNat false=WT c:=by
 have key:∀n:Fin 256,(aev allowed HU).getD n.val false=WT (UInt8.ofNat n.val):=by decide +kernel
 have:=key ⟨c.toNat,c.toNat_lt⟩;simp_all
def aew:(aev allowed HU).length=256:=by decide +kernel
def QR{t}(a:t.length=256) c:cG ((u8 c,()),t,())=aa ((t.getD c.toNat false,()),t,()):=by unfold cG;rw[UX,aj,ajd a,ab]
def WU{t}(a:t.length=256):∀(s:Tx),gK ((s,()),t,())=aa ((s.dropWhile<|λc=>t.getD c.toNat false,()),t,()):=by
 have key:∀s,Loop fy ((s,()),t,())=aa ((s.dropWhile<|λc=>t.getD c.toNat false,()),t,()):=by intro s;induction s with|nil =>rw[aZ];rfl|cons c r d =>rw[aZ];unfold fy;have hi:idx (c::r) 0=aa c:=rfl;rw[JB,hi,ab,QR a,ab,X2];cases e:t.getD c.toNat false with|false=>rfl|true =>(rw[ aV aI (by simp[len];omega) (sK _)];have b:sub (c::r) 1 (minus (len (c::r)) 1)=r:=by have:=je (c::r) 1 aW;grind);rw[b];show Loop fy _=_;grind
 intro s;unfold gK;rw[key,ab]
def aje{α}{l:List α}(h:l.length<=4294967296):cR .i64 (len l) 1=(l.length:Int)-1:=dc (by simp only[len];omega) (by simp only[len];omega)
def Tm{t}(f:t.length=256):∀n (s:Tx),s.length=n->n<=4294967296->dM ((s,()),t,())=aa (((s.reverse.dropWhile λc=>t.getD c.toNat false).reverse,()),t,()):=by
 have key:∀n s,s.length=n->n<=4294967296->Loop cH ((s,()),t,())=aa (((s.reverse.dropWhile λc=>t.getD c.toNat false).reverse,()),t,()):=by intro n;induction n with|zero =>(intro s a _;obtain rfl:=Am.1 a;rw[aZ];rfl)|succ n g =>(intro s a d;obtain⟨r,c,rfl⟩:∃r c,s=r++[c]:=⟨s.dropLast,s.getLast (by intro e;rw[e] at a;simp at a),(amS _).symm⟩;rw[aZ];unfold cH;have hlen:cR .i64 (len<|r++[c]) 1=r.length:=by rw[aje ai];simp);(have hi:idx (r++[c]) r.length=aa c:=by rw[xC];simp);rw[JB,show decide _=true from aW,hlen,hi,ab,QR f,ab,List.reverse_append,List.reverse_singleton,Us,X2];cases h:t.getD c.toNat false with|false=>simp[nt,ao,cf]|true =>(rw[ (aV aI ai<|by simp only[len,gR];omega)];have b:sub (r++[c]) 0 (minus r.length 0)=r:=by rw[fY];simp);rw[b];show Loop cH _=_;grind
 intro n s a d;unfold dM;rw[key n s a d,ab]
def dropWhile_nil{b:Type}{p}{l:List b}:l.dropWhile p=[]↔l.all p=true:=by induction l with|nil=>simp|cons a r c =>rw[X2];grind
def ajf{p}(s:Tx):((s.reverse.dropWhile p).reverse.dropWhile p=[])↔s.all p=true:=by
 constructor
 .intro h;rw[dropWhile_nil] at h;have a:s.reverse.all p=true:=by have e:s.reverse.takeWhile p++s.reverse.dropWhile p=s.reverse:=Al;rw[<-e,List.all_append];simp_all
  grind
 intro h;have:s.reverse.dropWhile p=[]:=by rw[dropWhile_nil,List.all_reverse];exact h
 simp_all
def JE(s:Tx):mR (s,())=aa (fh s,()):=by
 unfold mR fh;have d:cm 1 (len s)=decide (1<=s.length):=by unfold len;apply fk.2;omega
 have f:cm (len s) 32=decide (s.length<=32):=by unfold len;apply fk.2;omega
 rw[d,f];by_cases a:1<=s.length
 {rw[cT a,aj];by_cases c:s.length<=32;{(rw[cT c,aj,show([97,98,99,100,101,102,103,104,105,106,107,108,109,110,111,112,113,114,115,116,117,118,119,120,121,122,48,49,50,51,52,53,54,55,56,57,46,95,45])=allowed from rfl];unfold iQ;have g:s≠[]:=by intro e;rw[e] at a;simp at a);rw[bg g,aE,aj,bg (show allowed≠[] by decide),ag,show aR _ 1=false from rfl,ag,ab,Tl allowed aI aI,ab, Tm aew s.length s rfl ai,ab,WU aew,(funext anT)];show aa _=_;have:=ajf (p:=WT) s;by_cases b:s.all WT=true;{rw[cc<|this.2 b,b];rfl};rw[bg λe=>b (this.1 e)];grind};rw[cj c,ag,ab];simp};rw[cj a,ag,ag,ab];simp
def ZA(c:UInt8):Bool:=ao (ao (ao (ao (ao (nt<|ba (u8 c) 97) (ba 122<|u8 c) true) (ao (nt<|ba (u8 c) 48) (ba 57<|u8 c) true) false) (nt<|aR (u8 c) 46) false) (nt<|aR (u8 c) 95) false) (nt<|aR (u8 c) 45) false
def ZB c:ZA c=!WT c:=by
 have key:∀n:Fin 256,ZA (UInt8.ofNat n.val)=!WT (UInt8.ofNat n.val):=by decide +kernel
 have:=key ⟨c.toNat,c.toNat_lt⟩;simp_all
def wS(s:Tx)(c:s.length<=4294967296):lD (s,())=aa (fh s,()):=by
 unfold lD fh;rcases eR (f:=nY (s,())) s (λi=>((false,i,()),())) (λ_ x=>ZA x) _ _ c (λi x a b d=>by unfold nY;rw[aq b,au a,d];show ao (ZA x) _ _=_;cases ZA x<;>rfl) (by unfold nY;rw[aw];rfl) with ⟨i,x,a,e,l,h⟩|⟨g,h⟩
 .rw[h];have:s.all WT=false:=by rw[ZB] at e;grind
  rw[this,ahW];rfl
 rw[h];have:s.all WT=true:=by rw[wH];intro x a;obtain⟨i,b⟩:=bp.1 a;have:=g i x b;rw[ZB] at this;grind
 rw[this,ahZ];have j:cm 1 (len s)=decide (1<=s.length):=by unfold len;apply fk.2;omega
 have k:cm (len s) 32=decide (s.length<=32):=by unfold len;apply fk.2;omega
 rw[j,k];cases decide (1<=s.length)<;>rfl
end Go.Ge
namespace Go.Ge
variable [Lp]
open Go.Lib
def acA(l:List Tx):(xf l).Pairwise (λa b=>a<=b):=by have:=List.pairwise_mergeSort (le:=λx y=>decide (x<=y)) (λa b c h k=>by simp at h k⊢;exact List.le_trans h k) (λa b=>by simp;exact List.le_total a b) l;unfold xf;grind
def ZC(l:List Tx):(xf l).Nodup↔l.Nodup:=(List.mergeSort_perm l _).nodup_iff
def ZD{m:List Tx}{j} a:keeps m.toArray j=decide (j=0\/m[j]≠m[j-1]'ai):=by unfold keeps;grind
def WV(m:List Tx)(q:m.Pairwise λa b=>a<=b):(compact m).length<m.length↔¬m.Nodup:=by
 unfold compact compactUpTo;rw[qg];have:((List.range m.length).filter<|keeps m.toArray).length<m.length↔∃x,x∈List.range m.length/\¬keeps m.toArray x=true:=by have:=List.length_filter_lt_length_iff_exists (p:=keeps m.toArray) (l:=List.range m.length);grind
 rw[this];constructor
 {rintro⟨j,c,g⟩ f;have e:=Iz.1 c;rw[ZD e] at g;simp at g;have r:=D3.1 f (j-1) j ai e ai;grind};intro f;by_cases h:∃i j,∃(d:i<j) (c:j<m.length),m[i]'ai=m[j];{(obtain⟨i,j,d,c,k⟩:=h;refine⟨j,Iz.2 c,?_⟩;rw[ZD c];have le:=λa b n o=>D3.1 q a b ai o n;have n:m[j-1]'ai<=m[j]:=le _ j ai c;have o:m[j]<=m[j-1]'ai:=by grind);grind};exfalso;apply f;refine D3.2 λi j s c d k=>h ⟨i,j,d,c,k⟩
def gP(l:List Tx):Bool:=l.all fh&&decide l.Nodup&&decide (l.length<=4)
def dA(l:List Tx):Int:=if gP l=true then 0 else 1
def wi(l:List Tx)(b:l.length<=4294967296):gp (l,())=aa (dA l,()):=by
 unfold gp;have d:nt (ba 4<|len l)=decide (l.length<=4):=by unfold nt ba len;grind
 have e:ba (len<|compact<|xf l) (len l)=!decide l.Nodup:=by have h:=WV _ (acA l);rw[UQ,ZC] at h;unfold ba len;grind
 have g:dY l ()=aa (xf l):=by unfold dY;rw[ej b];rfl
 rw[ej b,g];rcases eR (f:=pK (l,())) l (λi=>((0,i,()),())) (λ_ x=>!fh x) (λi x=>(1,(i,i,()),())) _ b (λi x a c j=>by unfold pK;rw[aq c,aj,au a,ab,JE,ab,ai9,di,j];by_cases h:fh x=true<;>simp[h]) (by unfold pK;rw[aw];rfl) with ⟨i,x,a,m,n,h⟩|⟨o,h⟩
 .rw[h];have:l.all fh=false:=by grind
  have k:dA l=1:=by unfold dA gP;rw[this];rfl
  rw[k];show ao (ao _ _ true) _ _=_;cases nt _<;>rfl
 rw[h];have:l.all fh=true:=by rw[wH];intro x a;obtain⟨i,c⟩:=bp.1 a;grind
 show ao (ao _ _ true) _ _=_;rw[d,e];unfold dA gP;rw[this];cases decide l.Nodup<;>cases decide (l.length<=4)<;>rfl
def xU(l:List Tx)(D:l.length<=4294967296)(E:∀x∈l,x.length<=4294967296):kt (l,())=aa (gP l,()):=by
 unfold kt;have inner:∀r (i:Nat) x,l[i]?=aa x->(∃j y,j<i/\l[j]?=aa y/\y=x/\∃q,Loop (iJ (l,()) ((r,(i:Int),()),())) ((r,(0:Int),()),())=aa (1,(false,q),()))\/((∀j y,j<i->l[j]?=aa y->y≠x)/\∃q,Loop (iJ (l,()) ((r,(i:Int),()),())) ((r,0,()),())=aa (0,(r,q),())):=by
  intro r i x a;have hi:=aA a;have g:min i l.length=i:=ai;rcases WS (f:=iJ (l,()) ((r,i,()),())) l i (λj=>((r,j,()),())) (λ_ y=>decide (y=x)) (λj y=>(1,(false,j,()),())) _ ai (λj y m p b s=>by
   unfold iJ;rw[aT<|show(j:Int)<i by omega,aj,au m,ab,au a,ab,di,s];by_cases h:y=x<;>simp[bA,h]) (by
   unfold iJ;rw[g,aF (sK _),ag]) with ⟨j,y,b,m,e,_,h⟩|⟨B,h⟩
  .grind
  .grind
 let bad:=λi x=>!fh x||(l.take i).contains x
 have c:∀i x,l[i]?=aa x->((l.take i).contains x=true↔∃j y,j<i/\l[j]?=aa y/\y=x):=by
  intro i x a;simp only[List.contains_eq_mem,zn];rw[bp];constructor
  .grind
  .rintro⟨j,y,b,m,rfl⟩;exact⟨j,by rw[kh,aN b];exact m⟩
 rcases eR (f:=pL (l,())) l (λi=>((false,i,()),())) bad (λi x=>(1,(false,i,()),())) _ D (λi x a hi s=>by
  unfold pL;rw[aq hi,au a,ab,wS x (E x<|bp.2 ⟨i,a⟩),ab];cases C:fh x with
  | false=>simp[bad,C,nt,ao]
  | true =>
    rcases inner false i x a with ⟨j,y,n,o,t,q,h⟩|⟨B,q,h⟩
    .have d:=(c i x a).2 ⟨j,y,n,o,t⟩;rw[h];show aa _=_
     grind
    .have d:(l.take i).contains x=false:=by
      grind
     rw[h,s];simp only[bad,C,d];rfl) (by unfold pL;rw[aw];rfl) with ⟨i,x,a,e,p,h⟩|⟨B,h⟩
 .rw[h];have:gP l=false:=by
   unfold gP;simp only[bad,Iw] at e;rcases e with e|e
   .grind
   .have:¬l.Nodup:=λu=>by
     obtain⟨j,y,n,o,t⟩:=(c i x a).1 e;obtain⟨v,k⟩:=ga.1 a;obtain⟨w,z⟩:=ga.1 o;exact D3.1 u j i w v n (by rw[z,k,t])
    grind
  rw[this];rfl
 .rw[h];have n:l.all fh=true:=by
   rw[wH];intro x A;obtain⟨i,hi⟩:=bp.1 A
   grind
  have o:l.Nodup:=by
   refine D3.2 λj i p hi b F=>?_;have G:=(c i l[i]<|gQ hi).2 ⟨j,l[j],b,gQ p,F⟩
   grind
  show aa _=_
  unfold gP;have:cm (len l) 4=decide (l.length<=4):=by unfold len;apply fk.2;omega
  grind
def oX(l:List Tx)(a:l.length<=4294967296)(b:∀x∈l,x.length<=4294967296):gq (l,())=aa (dA l,()):=by unfold gq;dsimp only;rw[xU l a b,ab];unfold dA;cases gP l<;>rfl
end Go.Ge
namespace Go.Ge
variable [Lp]
def NR(a:List Tx)(b:Int)(i:Nat)(x:Nm):Bool:=decide ((i:Int)≠b)&&x.2.1.any (λs=>decide (s∈a))
def Li(l:List Nm)(a:List Tx)(b:Int):Bool:=l.zipIdx.any λp=>NR a b p.2 p.1
def ju(l:List Nm)(id:Tx)(a:List Tx):Int:=if dA a≠0 then dA a else if Li l a (BA l id)=true then 8 else 0
def BB{l given own}:Li l given own=true↔∃i x,l[i]?=aa x/\NR given own i x=true:=by
 unfold Li;rw[SM];constructor
 {rintro⟨p,a,h⟩;obtain⟨x,i⟩:=p;exact⟨i,x,amQ.1 a,h⟩};rintro⟨i,x,b,h⟩;exact⟨(x,i),amQ.2 b,h⟩
def QS{l given own}(h:∀i x,l[i]?=aa x->NR given own i x=false):Li l given own=false:=by rw[<-Bool.not_eq_true,BB];rintro⟨i,x,a,k⟩;rw[h i x a] at k;cases k
def ua l (id:Tx) (given:List Tx) (g:Small l) (p:given.length<=4294967296):ig (l,id,given,())=aa (ju l id given,()):=by
 unfold ig ju;rw[wi given p,ab];by_cases j:dA given=0
 .rw[j,QQ l id g.1,ab];generalize BA l id=own;have inner:∀y,y.2.1.length<=4294967296->(y.2.1.any (λs=>decide (s∈given))=true/\∃(k:Nat) (q:Int×al),Loop (jG y) ((0,0,()),given,())=aa (1,((k:Int),q),given,())) \/
    (y.2.1.any (λs=>decide (s∈given))=false/\∃q,Loop (jG y) ((0,0,()),given,())=aa (0,q,given,())):=by
   intro y r;rcases eR (f:=jG y) y.2.1 (λi=>((0,i,()),given,())) (λ_ s=>decide (s∈given)) (λi s=>(1,(i,i,()),given,())) _ r (λi s a b c=>by unfold jG;rw[aq b,aj,au a,ab,EE given s p,ab,di,c];by_cases h:s∈given<;>simp[h]) (by unfold jG;rw[aw];rfl) with ⟨i,s,a,m,t,h⟩|⟨n,h⟩
   .exact .inl ⟨SM.2 ⟨s,bp.2 ⟨i,a⟩,m⟩,i,_,h⟩
   .refine .inr ⟨?_,_,h⟩;rw[List.any_eq_false];intro s a;obtain⟨i,b⟩:=bp.1 a;rw[n i s b];simp
  rcases eR (f:=rn (l,_) (own,())) l (λi=>((0,i,()),given,())) (NR given own) (λi x=>(1,(8,i,()),given,())) _ g.1 (λi x d b c=>by unfold rn;rw[aq b,aj,au d,ab];unfold NR;by_cases e:i=own;{rw[ay e,aM,ag,c];simp[e]};rw[ax e,aE,aj];rcases inner x (g.2 x<|bp.2 ⟨i,d⟩) with ⟨o,k,q,h⟩|⟨o,q,h⟩;{rw[h,ab,o];dsimp only;rw[js,ag,bL ai,aj];simp[e]};rw[h,ab,o,cu,aj,show cm 0 (-1)=false from rfl,ag,c];simp) (by unfold rn;rw[aw];rfl) with ⟨i,x,d,m,t,h⟩|⟨n,h⟩
  {rw[h,aN (BB.2 ⟨i,x,d,m⟩)];rfl};rw[h,QS n];rfl
 rw[ax j,aE,aj,aN j]
def xV(l:List Nm)(id:Tx)(a:List Tx)(m:Small l)(r:a.length<=4294967296)(o:∀x∈a,x.length<=4294967296):mi (l,id,a,())=aa (ju l id a,()):=by
 unfold mi ju;dsimp only;rw[oX a r o,ab];dsimp only;by_cases p:dA a=0
 .rw[p,ay rfl,aM,ag,QP l id m.1,ab,aK aW];generalize BA l id=own;have inner:∀(i:Nat) (x:Nm),l[i]?=aa x->(NR a own i x=true/\∃q,Loop (jH (l,id,a,()) (own,()) (((0:Int),(i:Int),()),())) (((0:Int),(0:Int),()),())=aa (1,((8:Int),q),())) \/
    (NR a own i x=false/\∃q,Loop (jH (l,id,a,()) (own,()) (((0:Int),(i:Int),()),())) (((0:Int),(0:Int),()),())=aa (0,((0:Int),q),())):=by
   intro i x b;rcases eR (f:=jH (l,id,a,()) (own,()) (((0:Int),(i:Int),()),())) a (λn=>(((0:Int),n,()),())) (λ_ s=>decide ((i:Int)≠own)&&decide (s∈x.2.1)) (λn s=>(1,((8:Int),(n:Int),()),())) (0,((0:Int),len a,()),()) r (λn s c d j=>by unfold jH;dsimp only;rw[aq d,aj];by_cases k:(i:Int)=own;{rw[ay k,aM,ag,j];simp[k]};rw[ax k,aE,aj,au b,ab,au c,ab,Tk _ _ (m.2 x<|bp.2 ⟨i,b⟩),ab,di,j];by_cases h:s∈x.2.1<;>simp[h,k]) (by unfold jH;dsimp only;rw[aw,ag];rfl) with ⟨n,s,c,e,t,h⟩|⟨d,h⟩
   .refine .inl ⟨?_,_,h⟩;simp only[gC,zn] at e;unfold NR;simp only[gC,zn,SM];exact⟨e.1,s,e.2,bp.2 ⟨n,c⟩⟩
   .refine .inr ⟨?_,_,h⟩;rw[<-Bool.not_eq_true];unfold NR;simp only[gC,zn,SM];rintro⟨g,s,u,v⟩;obtain⟨n,c⟩:=bp.1 v;have:=d n s c;rw[cT g,cT u] at this;cases this
  rcases eR (f:=rq (l,id,a,()) (own,())) l (λi=>(((0:Int),i,()),())) (NR a own) (λi x=>(1,((8:Int),(i:Int),()),())) (0,((0:Int),len l,()),()) m.1 (λi x b w j=>by
   unfold rq;dsimp only;rw[aq w,aj];rcases inner i x b with ⟨g,q,h⟩|⟨g,q,h⟩;{rw[h,ab,g];rfl};rw[h,ab,g,j];rfl) (by unfold rq;dsimp only;rw[aw,ag];rfl) with ⟨i,x,b,e,t,h⟩|⟨d,h⟩
  {rw[h,ab,aN (BB.2 ⟨i,x,b,e⟩)];rfl};rw[h,ab,QS d];rfl
 rw[ax p,aE,aj,aN p]
def yM(l:List Tx)(h:l.length<=4294967296):bd (l,())=aa (l,()):=by unfold bd;rw[ej h];rfl
def NS(x y:List Tx)(l:x.length<=4294967296):eG (x,y,())=aa (decide<|x=y,()):=by
 unfold eG;rw[Zw];by_cases g:x.length=y.length
 .rw[cT g];rcases eR (f:=jW (x,y,())) x (λi=>((false,i,()),())) (λi a=>decide (y[i]?≠aa a)) (λi a=>(1,(false,i,()),())) _ l (λi a j m c=>by unfold jW;have b:i<y.length:=ai;rw[aq m,aj,aq b,aj,au j,ab,au (gQ b),ab,ai9,di,c,gQ b];by_cases h:a=y[i];{simp[bA,h]};have n:¬y[i]=a:=λe=>h e.symm;simp[bA,h,n]) (by unfold jW;rw[aw];rfl) with ⟨i,a,j,k,p,h⟩|⟨o,h⟩
  {(rw[h];have:x≠y:=λe=>by subst e;rw[j] at k;simp at k);rw[cj this];rfl};(rw[h];have:x=y:=by apply Pg;intro i;cases d:x[i]? with|none =>have:=amW.1 d;exact(amW.2 ai).symm|some a =>have:=o i a d;simp at this;exact this.symm);rw[cT this];rfl
 rw[cj g,aE,aj];have:x≠y:=λe=>g (by rw[e]);rw[cj this]
def alz{α}{n:Nat}{l:List α}{c:Int}(a:c=n):ao (ba ((min n l.length:Nat):Int)<|len l) (ba ((min n l.length:Nat):Int) c) false=false:=by
 subst a;by_cases h:l.length<=n
 {rw[Nat.min_eq_right h,aw,ag]};rw[yo ai,aF (sK _)];cases ba n _<;>rfl
def EF{α}{l:List α}{n:Nat}{c:Int}(a:c=n):cm (len l) c=decide (l.length<=n):=by subst a;exact CD n l
def ZE{α}{l:List α}{n:Nat}{c:Int}(a:c=n):ba c (len l)=decide (n<l.length):=by subst a;exact JA n l
def ow(l:List Tx):Prop:=l.length<=8/\∀x∈l,x.length<=100
def WW(l:List Tx):∃b,pJ (l,())=aa (b,())/\(b=true->ow l):=by
 unfold pJ;rcases WS (f:=kN (l,())) l 8 (λi=>((false,i,()),())) (λ_ x=>decide (100<x.length)) (λi x=>(1,(false,i,()),())) (λn=>_) ai (λi x d a g j=>by unfold kN;dsimp only;rw[aq a,aj,aT ai,aj,au d,ab,ZE (c:=100) rfl,di,j];by_cases h:100<x.length<;>simp[h]) (by unfold kN;rw[alz (c:=8) rfl,ag]) with ⟨i,x,a,d,o,_,h⟩|⟨k,h⟩
 {rw[h];exact⟨false,rfl,λh=>by cases h⟩};rw[h];refine⟨_,rfl,λe=>?_⟩;dsimp only at e;rw[EF (n:=8) (c:=8) rfl] at e;have m:=gb e;refine⟨m,λx d=>?_⟩;obtain⟨i,a⟩:=bp.1 d;have:=k i x (by have:=aA a;omega) a;simpa using this
def apv(l:List Nm):Prop:=l.length<=40/\∀x∈l,x.1.length<=100/\ow x.2.1
def ow.small{l}(h:ow l):l.length<=4294967296:=by have:=h.1;omega
def ow.each{l}(h:ow l):∀x∈l,x.length<=4294967296:=λx a=>by have:=h.2 x a;omega
def apv.small{l}(h:apv l):Small l:=⟨by have:=h.1;omega,λx a=>by have:=(h.2 x a).2.1;omega⟩
def id1:Tx:=[48,48,48,48,48,49]
def acB{l:List Nm}{id:Tx}{k:Nat}(h:BA l id=k):∃x,l[k]?=aa x/\x.1=id:=by
 unfold BA at h;split at h
 {rename_i i a;have:i=k:=ai;subst this;rw[XZ] at a;obtain⟨b,c,_⟩:=a;exact⟨l[i],gQ b,gb c⟩};omega
abbrev Item:=Tx×Tx×Tx×al
abbrev bD:=Tx×Tx×List Tx×Tx×Int×Int×Bool×al
abbrev eE:=Tx×List Tx×Tx×Tx×List Item×al
abbrev r5:=Tx×List Tx×Tx×Tx×Tx×List Item×al
abbrev JF:=Int×List bD×List eE×List r5×al
structure FewB (b:JF):Prop where
 ll:b.2.1.length<=40
 ln:∀x∈b.2.1,ow x.2.2.1
 il:b.2.2.1.length<=40
 sj:∀x∈b.2.2.1,ow x.2.1
 bl:b.2.2.2.1.length<=40
 bn:∀x∈b.2.2.2.1,ow x.2.1
def ofL(x:bD):List Nm:=if x.2.2.2.2.2.2.1=true then [(x.1,x.2.2.1,())] else []
def ofI(x:eE):List Nm:=[(x.1,x.2.1,())]
def ofB(x:r5):List Nm:=[(x.1,x.2.1,())]
def ofV(a:Int)(b:JF):List Nm:=if a=1 then b.2.2.2.1.flatMap ofB else if a=2 then b.2.2.1.flatMap ofI else if a=3 then b.2.1.flatMap ofL else []
def lX{b c:Type}{g:b->List c}(d:∀x,(g x).length<=1)(l:List b):(l.flatMap g).length<=l.length:=by induction l with|nil=>simp|cons a r e=>rw[M9,gR,iG];have:=d a;omega
def fe{a b:Type}{g:a->List b}(c:∀x,(g x).length<=1)(l:List a) i:((l.take i).flatMap g).length<=l.length:=by have:=lX c (l.take i);grind
def OO x:(ofL x).length<=1:=by unfold ofL;split<;>simp
def JG x:(ofI x).length<=1:=by simp[ofI]
def OP x:(ofB x).length<=1:=by simp[ofB]
def yj{α}{s:List α}{x:α}(h:s.length<=1000):fits (plus (len s)<|len [x])=true:=aP dW
def xW kind b (a:FewB b):rR (kind,b,())=aa (ofV kind b,()):=by
 unfold rR ofV;by_cases g:kind=1
 .rw[aN g,ay g,aj];have:=hU (f:=vv (kind,b,())) b.2.2.2.1 (λs i=>((i,()),(),s,())) ofB _ (by have:=a.bl;omega) (λi x c d e=>by unfold vv;dsimp only;have k:=fe OP b.2.2.2.1 i;rw[aq d,au c,ab,yM _ (a.bn x<|bp.2 ⟨i,c⟩).small,ab,yj (by have:=a.bl;omega),e];rfl) (by unfold vv;rw[aw];rfl)
  rw[this,ab,ab]
 rw[aK g,ax g,ag];by_cases h:kind=2;{(rw[aN h,ay h,aj];have:=hU (f:=vw (kind,b,())) b.2.2.1 (λs i=>((i,()),(),s,())) ofI _ (by have:=a.il;omega) (λi x c d e=>by unfold vw;dsimp only;have k:=fe JG b.2.2.1 i;rw[aq d,au c,ab,yM _ (a.sj x<|bp.2 ⟨i,c⟩).small,ab,yj (by have:=a.il;omega),e];rfl) (by unfold vw;rw[aw];rfl));rw[this,ab,ab,ab]};rw[aK h,ax h,ag];by_cases j:kind=3;{(rw[aN j,ay j,aj];have:=hU (f:=vx (kind,b,())) b.2.1 (λs i=>((i,()),(),s,())) ofL _ (by have:=a.ll;omega) (λi x c d e=>by unfold vx;dsimp only;have k:=fe OO b.2.1 i;rw[aq d,au c,ab,yM _ (a.ln x<|bp.2 ⟨i,c⟩).small,ab,yj (by have:=a.ll;omega),e];unfold ofL;cases x.2.2.2.2.2.2.1 with|false=>simp[ao,ae,cf]|true=>rfl) (by unfold vx;rw[aw];rfl));rw[this,ab,ab,ab,ab]};rw[aK j,ax j];rfl
def yN(a:Int)(b:JF)(c:FewB b):rS (a,b,())=aa (ofV a b,()):=by
 unfold rS ofV;dsimp only;by_cases h:a=1
 .rw[aN h,ay h,aj];have:=hU (f:=vy (a,b,())) b.2.2.2.1 (λs i=>(((),i,()),s,())) ofB (((),len b.2.2.2.1,()),b.2.2.2.1.flatMap ofB,()) (by have:=c.bl;omega) (λi x d e g=>by unfold vy;dsimp only;have l:=fe OP b.2.2.2.1 i;rw[aq e,aj,au d,ab,ab,yj (by have:=c.bl;omega),aj,g];rfl) (by unfold vy;dsimp only;rw[aw,ag];rfl)
  rw[this,ab,ab]
 rw[aK h,ax h,ag];by_cases j:a=2;{(rw[aN j,ay j,aj];have:=hU (f:=vz (a,b,())) b.2.2.1 (λs i=>(((),i,()),s,())) ofI (((),len b.2.2.1,()),b.2.2.1.flatMap ofI,()) (by have:=c.il;omega) (λi x d e g=>by unfold vz;dsimp only;have l:=fe JG b.2.2.1 i;rw[aq e,aj,au d,ab,ab,yj (by have:=c.il;omega),aj,g];rfl) (by unfold vz;dsimp only;rw[aw,ag];rfl));rw[this,ab,ab,ab]};rw[aK j,ax j,ag];by_cases k:a=3;{(rw[aN k,ay k,aj];have:=hU (f:=vA (a,b,())) b.2.1 (λs i=>(((),i,()),s,())) ofL (((),len b.2.1,()),b.2.1.flatMap ofL,()) (by have:=c.ll;omega) (λi x d e g=>by unfold vA;dsimp only;have l:=fe OO b.2.1 i;rw[aq e,aj,au d,ab,ab,ab,yj (by have:=c.ll;omega),aj,g];unfold ofL;cases x.2.2.2.2.2.2.1 with|false=>simp[ao,ae,cf]|true=>rfl) (by unfold vA;dsimp only;rw[aw,ag];rfl));rw[this,ab,ab,ab,ab]};rw[aK k,ax k,ag];rfl
def FY kind b (c:FewB b):Small (ofV kind b):=by
 unfold ofV;split
 {refine⟨by have:=lX OP b.2.2.2.1;have:=c.bl;omega,λx a=>?_⟩;rw[Hs] at a;obtain⟨y,d,a⟩:=a;simp only[ofB,D5] at a;subst a;exact(c.bn y d).small};split;{refine⟨by have:=lX JG b.2.2.1;have:=c.il;omega,λx a=>?_⟩;rw[Hs] at a;obtain⟨y,d,a⟩:=a;simp only[ofI,D5] at a;subst a;exact(c.sj y d).small};split;{refine⟨by have:=lX OO b.2.1;have:=c.ll;omega,λx a=>?_⟩;rw[Hs] at a;obtain⟨y,d,a⟩:=a;unfold ofL at a;split at a;{simp at a;subst a;exact(c.ln y d).small};cases a};exact⟨aW,λx a=>by cases a⟩
def HV(n x:Int):Int:=B6 .u32 (jv .u32 x n) (om .u32 x<|32-n)
def qL{n m}(h:gT .u64 (kg .u64<|cR .i64 0 n) 31=m)(a:ba m 0=false)(b:cR .u64 32 m=n)(c:ba n 0=false)(d:32-n=m) x:cl (x,n,())=aa (HV n x,()):=by unfold cl kp HV;rw[h,a,ag,b,c,ag,ab,d,acw]
def CF{n}(a:ba n 0=false)(b:cR .i64 32 n=32-n)(c:ba (32-n) 0=false) x:cq (x,n,())=aa (HV n x,()):=by unfold cq HV;rw[a,ag,b,c,ag]
def r7 x:cl (x,7,())=aa (HV 7 x,()):=qL (m:=25) aI aI aI aI aI x
def r18 x:cl (x,18,())=aa (HV 18 x,()):=qL (m:=14) aI aI aI aI aI x
def r17 x:cl (x,17,())=aa (HV 17 x,()):=qL (m:=15) aI aI aI aI aI x
def r19 x:cl (x,19,())=aa (HV 19 x,()):=qL (m:=13) aI aI aI aI aI x
def r6 x:cl (x,6,())=aa (HV 6 x,()):=qL (m:=26) aI aI aI aI aI x
def r11 x:cl (x,11,())=aa (HV 11 x,()):=qL (m:=21) aI aI aI aI aI x
def r25 x:cl (x,25,())=aa (HV 25 x,()):=qL (m:=7) aI aI aI aI aI x
def r2 x:cl (x,2,())=aa (HV 2 x,()):=qL (m:=30) aI aI aI aI aI x
def r13 x:cl (x,13,())=aa (HV 13 x,()):=qL (m:=19) aI aI aI aI aI x
def r22 x:cl (x,22,())=aa (HV 22 x,()):=qL (m:=10) aI aI aI aI aI x
def t7 x:cq (x,7,())=aa (HV 7 x,()):=CF aI aI aI x
def t18 x:cq (x,18,())=aa (HV 18 x,()):=CF aI aI aI x
def t17 x:cq (x,17,())=aa (HV 17 x,()):=CF aI aI aI x
def t19 x:cq (x,19,())=aa (HV 19 x,()):=CF aI aI aI x
def t11 x:cq (x,11,())=aa (HV 11 x,()):=CF aI aI aI x
def t2 x:cq (x,2,())=aa (HV 2 x,()):=CF aI aI aI x
def t13 x:cq (x,13,())=aa (HV 13 x,()):=CF aI aI aI x
def word(b:List Int)(t:Nat):Int :=B6 .u32 (B6 .u32 (B6 .u32 (om .u32 (kg .u32<|b.getD (4*t) 0) 24)<|om .u32 (kg .u32<|b.getD (4*t+1) 0) 16)<|om .u32 (kg .u32<|b.getD (4*t+2) 0) 8) (kg .u32<|b.getD (4*t+3) 0)
def gB(n:Nat):List Int:=List.replicate n 0
def EG(b:List Int):Nat->List Int|0=>gB 64|t+1=>(EG b t).set t (word b t)
def wj b t:(EG b t).length=64:=by induction t with|zero=>rfl|succ t a=>simp[EG,a]
def afO b:∀t j,t<=j->j<64->(EG b t).getD j 0=0:=by intro t;induction t with|zero =>intro j _ d;show(List.replicate 64 _).getD j 0=0;grind|succ t a =>intro j e c;have:=a j ai c;simp only[EG] at this⊢;grind
def apw(p:List Int)(t:Nat):Int :=aC .u32 (aC .u32 (aC .u32 (gD .u32 (gD .u32 (HV 17<|p.getD (t-2) 0)<|HV 19<|p.getD (t-2) 0)<|jv .u32 (p.getD (t-2) 0) 10)<|p.getD (t-7) 0) (gD .u32 (gD .u32 (HV 7<|p.getD (t-15) 0)<|HV 18<|p.getD (t-15) 0)<|jv .u32 (p.getD (t-15) 0) 3)) (p.getD (t-16) 0)
def NT(l:List Int):Nat->List Int|0=>l|k+1=>(NT l k).set (16+k) (apw (NT l k)<|16+k)
def HW l k:(NT l k).length=l.length:=by induction k with|zero=>rfl|succ k a=>simp[NT,a]
def CG(b:List Int):List Int:=NT (EG b 16) 48
def JH b:(CG b).length=64:=by unfold CG;rw[HW,wj]
def four{t:Nat}(a:t<64):jt .i64 4 t=((4*t:Nat):Int):=by rw[ED ai ai];omega
def ZF b (l:b.length=64) (t:Nat) (m:t<16) w (d:w.length=64) (n:w.getD t 0=0) u v y :
  Loop (jS (b,u) ((t,v),y)) ((0,()),w,())=aa ((4,()),w.set t<|word b t,()):=by
 let a:=λj=>match j with|0=>0|1=>B6 .u32 (om .u32 0 8) (kg .u32<|b.getD (4*t) 0)|2=>B6 .u32 (om .u32 (B6 .u32 (om .u32 0 8)<|kg .u32<|b.getD (4*t) 0) 8) (kg .u32<|b.getD (4*t+1) 0)|3=>B6 .u32 (om .u32 (B6 .u32 (om .u32 (B6 .u32 (om .u32 0 8)<|kg .u32<|b.getD (4*t) 0) 8)<|kg .u32<|b.getD (4*t+1) 0) 8) (kg .u32<|b.getD (4*t+2) 0)|_=>word b t
 have c:∀j,j<4->a (j+1)=B6 .u32 (om .u32 (a j) 8) (kg .u32<|b.getD (4*t+j) 0):=by intro j e;rcases(by omega:j=0\/j=1\/j=2\/j=3) with rfl|rfl|rfl|rfl;{rfl};{rfl};{rfl};exact(alx _ _ _ _).symm
 have h:w=w.set t 0:=by apply Pg;grind
 have:=cp (f:=jS (b,u) ((t,v),y)) 4 (λj=>((j,()),w.set t<|a j,())) (λj e=>by
  unfold jS;dsimp only;rw[four ai,eh ai ai];have g:minus (((4*t:Nat):Int)+4) ((4*t:Nat):Int)=4:=by unfold minus;omega
  rw[ aT ai,aj,aO ai ai,aj,aO ai ai];have o:(w.set t<|a j).length=64:=by simp[d]
  have i:(w.set t<|a j).getD t 0=a j:=by simp[ d,(by omega:t<64)]
  rw[nO b 0 (k:=4*t+j) (by unfold plus;omega) ai,ab,aj,fD _ 0 ai,i,ab,aF aI,ag,aj,ab,ab,ab,j8,aJ ai,Jz,List.set_set,c j e])
  (by (unfold jS;rw[four ai,eh ai ai];have g:minus (((4*t:Nat):Int)+4) ((4*t:Nat):Int)=4:=by unfold minus;omega);rw[g];rfl)
 grind
def aey:([0,0,0,0,0,0,0,0,0,0,0,0,0,0,0,0,0,0,0,0,0,0,0,0,0,0,0,0,0,0,0,0,0,0,0,0,0,0,0,0,0,0,0,0,0,0,0,0,0,0,0,0,0,0,0,0,0,0,0,0,0,0,0,0]:List Int)=gB 64:=rfl
def ZG b (a:b.length=64) u:Loop (nQ (b,u)) ((0,()),gB 64,())=aa ((16,()),EG b 16,()):=by
 refine cp 16 (λt=>(((t:Int),()),EG b t,())) (λt c=>?_) ?_
 {unfold nQ;dsimp only;rw[aT ai,four ai,eh ai ai,aV ai ai ai,ZF b a t c _ (wj b t) (afO b t t (b8 _) ai),aJ ai];rfl};unfold nQ;dsimp only;rfl
def afP l (a:l.length=64):Loop nR ((16,()),l,())=aa ((64,()),NT l 48,()):=by
 refine cp 48 (λk=>((((16+k:Nat):Int),()),NT l k,())) (λk b=>?_) ?_
 .have hlen:(NT l k).length=64:=by rw[HW,a]
  unfold nR;dsimp only;rw[aT ai,dc ai ai,dc ai ai,dc ai ai,dc ai ai,aO ai ai,aj,nO _ 0 (k:=16+k-2) ai ai,ab,aO ai ai,aj,nO _ 0 (k:=16+k-15) ai ai,ab,r7,ab,r18,ab,aF aI,ag,r17,ab,r19,ab,aO ai ai,aj,nO _ 0 (k:=16+k-7) ai ai,ab,aO ai ai,aj,nO _ 0 (k:=16+k-16) ai ai,aO ai ai,fD _ 0 ai,aJ ai]
  rfl
 unfold nR;dsimp only;rfl
def WX b (a:b.length=64) u:tg (b,u)=aa (CG b,()):=by unfold tg;rw[aey,ZG b a,ab,afP _<|wj b 16,ab];dsimp only[CG]
def ajg s {i} (h:i<s.length) x (hx:s[i]?=aa x):u8 x=(aB s).getD i 0:=by simp[aB,hx,u8]
def afQ h s (o:s.length=64) u:Loop (lh (h,s,u)) ((0,()),gB 64,())=aa (((16:Int),()),EG (aB s) 16,()):=by
 have key:∀b,b=aB s->Loop (lh (h,s,u)) ((0,()),gB 64,())=aa ((16,()),EG b 16,()):=by intro b a;refine cp 16 (λt=>(((t:Int),()),EG b t,())) (λt p=>?_) ?_;{(have at_:∀(i:Int) (j:Nat),i=j->j<64->∃x,idx s i=aa x/\u8 x=b.getD j 0:=by intro i j e q;subst e;refine⟨s[j],?_,by rw[a];exact ajg s ai _ (gQ ai)⟩;rw[xC,gQ]);(unfold lh;dsimp only;rw[aT ai,four ai,eh ai ai,eh ai ai,eh ai ai];obtain⟨r,c,d⟩:=at_ _ (4*t) rfl ai;obtain⟨v,f,g⟩:=at_ (((4*t:Nat):Int)+1) (4*t+1) ai ai;obtain⟨w,k,l⟩:=at_ (((4*t:Nat):Int)+2) (4*t+2) ai ai;obtain⟨y,m,n⟩:=at_ (((4*t:Nat):Int)+3) (4*t+3) ai ai;rw[c,ab,aF aI,ag,f,ab,aF aI,ag,k,ab,m,ab,aO ai ai,fD _ 0 (by rw[wj];omega),aJ ai,d,g,l,n]);rfl};unfold lh;dsimp only;rfl
 grind
def alA l (a:l.length=64):Loop px ((16,()),l,())=aa ((64,()),NT l 48,()):=by
 refine cp 48 (λk=>((((16+k:Nat):Int),()),NT l k,())) (λk b=>?_) ?_
 .have hlen:(NT l k).length=64:=by rw[HW,a]
  unfold px;dsimp only;rw[aT ai,dc ai ai,dc ai ai,dc ai ai,dc ai ai,aO ai ai,aj,nO _ 0 (k:=16+k-2) ai ai,ab,aO ai ai,aj,nO _ 0 (k:=16+k-15) ai ai,ab,t17,ab,t19,ab,aF aI,ag,aO ai ai,aj,nO _ 0 (k:=16+k-7) ai ai,ab,t7,ab,t18,ab,aO ai ai,aj,nO _ 0 (k:=16+k-16) ai ai,aO ai ai,fD _ 0 ai,aJ ai]
  rfl
 unfold px;dsimp only;rfl
abbrev W8:=Int×Int×Int×Int×Int×Int×Int×Int
def rnd(k w:Int):W8->W8
 | (a,b,c,d,e,f,g,h) =>
   let one:=aC .u32 (aC .u32 (aC .u32 (aC .u32 h<|gD .u32 (gD .u32 (HV 6 e)<|HV 11 e)<|HV 25 e)<|gD .u32 g<|gT .u32 e<|gD .u32 f g) k) w;let two:=aC .u32 (gD .u32 (gD .u32 (HV 2 a)<|HV 13 a)<|HV 22 a) (B6 .u32 (gT .u32 a b)<|gT .u32 c<|B6 .u32 a b)
   (aC .u32 one two,a,b,c,aC .u32 d one,e,f,g)
def ZH(K w:List Int)(s:W8):Nat->W8|0=>s|t+1=>rnd (K.getD t 0) (w.getD t 0) (ZH K w s t)
def Lj:List Int:=[1116352408,1899447441,3049323471,3921009573,961987163,1508970993,2453635748,2870763221,3624381080,310598401,607225278,1426881987,1925078388,2162078206,2614888103,3248222580,3835390401,4022224774,264347078,604807628,770255983,1249150122,1555081692,1996064986,2554220882,2821834349,2952996808,3210313671,3336571891,3584528711,113926993,338241895,666307205,773529912,1294757372,1396182291,1695183700,1986661051,2177026350,2456956037,2730485921,2820302411,3259730800,3345764771,3516065817,3600352804,4094571909,275423344,430227734,506948616,659060556,883997877,958139571,1322822218,1537002063,1747873779,1955562222,2024104815,2227730452,2361852424,2428436474,2756734187,3204031479,3329325298]
def afR:Ew ()=aa (Lj,()):=rfl
def acC:yD ()=aa (Lj,()):=rfl
def yO(s:W8)(t:Int):Int×Int×Int×Int×Int×Int×Int×Int×Int×al:=(s.1,s.2.1,s.2.2.1,s.2.2.2.1,s.2.2.2.2.1,s.2.2.2.2.2.1,s.2.2.2.2.2.2.1,s.2.2.2.2.2.2.2,t,())
def oY(s:W8):List Int:=[s.1,s.2.1,s.2.2.1,s.2.2.2.1,s.2.2.2.2.1,s.2.2.2.2.2.1,s.2.2.2.2.2.2.1,s.2.2.2.2.2.2.2]
def acD w (a:w.length=64) s u v:Loop (kI (Lj,u) (w,v)) (yO s 0,())=aa (yO (ZH Lj w s 64) 64,()):=by
 refine cp 64 (λt=>(yO (ZH Lj w s t) t,())) (λt b=>?_) ?_
 .show kI _ _ _=aa _;unfold kI yO;dsimp only;rw[aT ai,r6,r11,r25,aO ai ai,fD Lj 0 (by show t<64;omega),fD w 0 ai,r2,r13,r22,aJ ai]
  rfl
 unfold yO;rfl
def acE(w:List Int)(m:w.length=64)(s:W8) q u v:Loop (lj (q,w,u) (Lj,v)) ((0,()),oY s,())=aa (((64:Int),()),oY<|ZH Lj w s 64,()):=by
 refine cp 64 (λt=>(((t:Int),()),oY<|ZH Lj w s t,())) (λt i=>?_) ?_
 .show lj _ _ _=aa (.inl ((((t+1:Nat):Int),()),oY<|rnd _ _ _,()));generalize ZH Lj w s t=q;obtain⟨a,b,c,d,e,f,g,h⟩:=q;have j:idx (oY (a,b,c,d,e,f,g,h)) 0=aa a:=rfl;have k:idx (oY (a,b,c,d,e,f,g,h)) 1=aa b:=rfl;have l:idx (oY (a,b,c,d,e,f,g,h)) 2=aa c:=rfl;have n:idx (oY (a,b,c,d,e,f,g,h)) 3=aa d:=rfl;have o:idx (oY (a,b,c,d,e,f,g,h)) 4=aa e:=rfl;have p:idx (oY (a,b,c,d,e,f,g,h)) 5=aa f:=rfl;have r:idx (oY (a,b,c,d,e,f,g,h)) 6=aa g:=rfl;have x:idx (oY (a,b,c,d,e,f,g,h)) 7=aa h:=rfl;have w0:within 0 8=true:=aI;have w1:within 1 8=true:=aI;have w2:within 2 8=true:=aI;have w3:within 3 8=true:=aI;have wt:within t 64=true:=aO ai ai;unfold lj;simp only[aT<|show(t:Int)<64 by omega,aj,w0,w1,w2,w3,wt,j,k,l,ab,t11,t2,t13,fD Lj 0 i,fD w 0 (show t<w.length by omega),aJ (show t<4611686018427387904 by omega),<-aps,<-anR]
  rfl
 unfold lj;rfl
def of8(l:List Int):W8:=(l.getD 0 0,l.getD 1 0,l.getD 2 0,l.getD 3 0,l.getD 4 0,l.getD 5 0,l.getD 6 0,l.getD 7 0)
def afS l (i:l.length=8):oY (of8 l)=l:=by match l,i with|[a,b,c,d,e,f,g,h],_=>rfl
def CH(l m:List Int):Nat->List Int|0=>l|i+1=>(CH l m i).set i (aC .u32 (l.getD i 0)<|m.getD i 0)
def EH l m i:(CH l m i).length=l.length:=by induction i with|zero=>rfl|succ i a=>simp[CH,a]
def aez l m:∀i j,i<=j->(CH l m i).getD j 0=l.getD j 0:=by intro i;induction i with|zero=>intro j _;rfl|succ i a =>intro j h;have:=a j ai;simp only[CH] at this⊢;grind
def comp(h b:List Int):List Int:=CH h (oY<|ZH Lj (CG b) (of8 h) 64) 8
def ZI h b:(comp h b).length=h.length:=EH _ _ _
def afT l m (i:l.length=8) (j:m.length=8):CH l m 8=CH m l 8:=by match l,i,m,j with|[a,b,c,d,e,f,g,h],_,[k,n,o,p,q,r,s,t],_ =>simp only[CH,List.set,List.getD_cons_succ];simp only[Zv]
def afU h (c:h.length=8) s (f:s.length=64) u:vi (h,s,u)=aa (comp h<|aB s,()):=by
 unfold vi;rw[aey,afQ h s f,ab,alA _<|wj _ _,ab,acC,ab];have b:(CG<|aB s).length=64:=JH _;have d:=acE _ b (of8 h) (64,()) () ();rw[<-((afS h c).symm)] at d;rw[show NT _ 48=CG _ from rfl,d,ab];generalize e:oY _=m;have a:m.length=8:=by rw[<-e];rfl
 have:Loop (py (h,s,u)) ((0,()),m,())=aa ((8,()),CH m h 8,()):=by refine cp 8 (λi=>(((i:Int),()),CH m h i,())) (λi g=>?_) ?_;{(have j:(CH m h i).length=8:=by rw[EH,a]);unfold py;simp only[aT<|show(i:Int)<8 by omega,aO (show(0:Int)<=i by omega) (show _<8 by omega),fD _ 0 (show i<(CH m h i).length by omega),fD h 0 (show i<h.length by omega),aJ (show i<4611686018427387904 by omega)];rw[aez m h i i<|b8 _];rfl};unfold py;rfl
 rw[this,ab,afT m h a c];unfold comp;rw[e]
def H0:List Int:=[1779033703,3144134277,1013904242,2773480762,1359893119,2600822924,528734635,1541459225]
def afV:vY ()=aa (H0,()):=rfl
def Tn:AB ()=aa (H0,()):=rfl
def CI(a:bj):Nat->List Int|0=>H0|k+1=>comp (CI a k) (aB<|(a.drop<|64*k).take 64)
def CJ all k:(CI all k).length=8:=by induction k with|zero=>rfl|succ k a=>simp only[CI];rw[ZI,a]
def aeA all more:∀k,64*k<=all.length->CI (all++more) k=CI all k:=by intro k;induction k with|zero=>intro _;rfl|succ k a =>simp only[CI];grind
abbrev To:=(Bool×List Int×al)×List Int×Int×al
def Inv(c:To)(a:bj):Prop :=∃b,c=((decide<|64<=a.length,(if 64<=a.length then CI a (a.length / 64) else gB 8),()),b,(a.length:Int),())/\b.length=64/\b.take (a.length % 64)=aB (a.drop<|64*(a.length / 64))
def ajh:To:=((false,gB 8,()),gB 64,0,())
def arp:Inv ajh []:=⟨gB 64,rfl,rfl,rfl⟩
def vH a b:aB (a++b)=aB a++aB b:=by simp[aB]
def EI a n:(aB a).take n=aB (a.take n):=by simp[aB]
def gx a:(aB a).length=a.length:=by simp[aB]
def ub(a b:Nat):fX a b=((a % b:Nat):Int):=(Int.natCast_emod a b).symm
def aji q (st:To) (a:st.1.2.1.length=8):Loop (hM (yO q 64,())) ((0,()),st,())=aa ((8,()),((st.1.1,CH st.1.2.1 (oY q) 8,st.1.2.2),st.2),()):=by
 obtain⟨⟨b,h,u⟩,c⟩:=st;refine cp (f:=hM _) 8 (λi=>((i,()),((b,CH h (oY q) i,u),c),())) (λi g=>?_) ?_
 .have j:(CH h (oY q) i).length=8:=by rw[EH,a]
  have d:([(yO q 64).1,(yO q 64).2.1,(yO q 64).2.2.1,(yO q 64).2.2.2.1,(yO q 64).2.2.2.2.1,(yO q 64).2.2.2.2.2.1,(yO q 64).2.2.2.2.2.2.1,(yO q 64).2.2.2.2.2.2.2.1])=oY q:=rfl;unfold hM;rw[d];have e:(oY q).length=8:=rfl;simp only[aT<|show(i:Int)<8 by omega,aO (show(0:Int)<=i by omega) (show _<8 by omega),fD (CH h (oY q) i) 0 (show i<(CH h _ i).length by omega),fD _ 0 (show i<(oY q).length by omega),ab,aJ (show i<4611686018427387904 by omega)];rw[aez h _ i i<|b8 _];rfl
 unfold hM;rfl
def ajj(part a:bj)(M:To)(O:part≠[])(P:Inv M a)(hb:a.length+part.length<1152921504606846976) :
  ∃p,fK ((part,()),M,())=aa (.inl ((part.drop<|64-a.length % 64,()),p,()))/\Inv p (a++part.take (64-a.length % 64)):=by
 obtain⟨d,rfl,hw,Q⟩:=P;generalize R:a.length=N at *;have S:N % 64<64:=D7 _ aI;have B:fX (N:Int) 64=((N % 64:Nat):Int):=ub N 64;have em:kD (aB part) (minus (64:Int) ((N % 64:Nat):Int))=aB (part.take<|64-N % 64):=by unfold kD minus;rw[show((64:Int)-((N % 64:Nat):Int)).toNat=64-N % 64 by omega,EI]
 generalize j:(part.take<|64-N % 64).length=k;have T:k=min (64-N % 64) part.length:=by rw[<-j,cY]
 have U:0<k:=by
  have:0<part.length:=by cases part with|nil=>exact absurd rfl O|cons=>simp
  omega
 have q:len (aB<|part.take<|64-N % 64)=(k:Int):=by unfold len;rw[gx,j]
 have s:aC .i64 ((N % 64:Nat):Int) (k:Int)=((N % 64+k:Nat):Int):=by rw[eh ai ai];omega
 have l:aC .i64 (N:Int) (k:Int)=((N+k:Nat):Int):=by rw[eh ai ai];omega
 have t:inside ((N % 64:Nat):Int) 64 64=true:=aV ai ai ai;have u:inside (k:Int) (len part) (len part)=true:=aV ai ep ai;have v:sub part (k:Int) (minus (len part) (k:Int))=part.drop k:=by unfold sub minus len;rw[An,Is (by rw[qo];omega)]
 have w:part.drop k=part.drop (64-N % 64):=by rcases Nat.le_total (64-N % 64) part.length with h|h;{rw[show k=64-N % 64 by omega]};rw[Iu ai,Iu h]
 have m:over d ((N % 64:Nat):Int) (aB<|part.take<|64-N % 64)=aB (a.drop (64*(N / 64))++part.take (64-N % 64))++d.drop (N % 64+k):=by unfold over;rw[An,Q,gx,j,vH]
 have C:nt (bA part [])=true:=by unfold bA nt;cases part with|nil=>exact absurd rfl O|cons x r=>rfl
 have e:(a++part.take (64-N % 64)).length=N+k:=by rw[gR,R,j]
 have V:64*(N / 64)+N % 64=N:=Yg N 64;have b:(a.drop<|64*(N / 64)).length=N % 64:=by rw[qo];omega
 have g:(aB (a.drop (64*(N / 64))++part.take (64-N % 64))++d.drop (N % 64+k)).length=64:=by rw[gR,gx,gR,b,j,qo];omega
 unfold fK;dsimp only;simp only[C,aj,ax (show(64:Int)≠0 by decide),ag,B,t,em,q,u,s,l,v,m];by_cases D:N % 64+k=64
 ·
  have E:d.drop (N % 64+k)=[]:=by rw[Iu ai]
  simp only[ay<|show((N % 64+k:Nat):Int)=64 by omega,aj,E,zo] at g⊢;generalize z:aB (a.drop (64*(N / 64))++part.take (64-N % 64))=blk at *;have A:(N+k) / 64=N / 64+1:=ai;have F:(N+k) % 64=0:=ai;have n:((a++part.take (64-N % 64)).drop<|64*(N / 64)).take 64=a.drop (64*(N / 64))++part.take (64-N % 64):=by rw[abn ai,Is (by rw[gR,b,j];omega)]
  have G:∃H:Bool,H=true/\(ae (ao (nt<|decide<|64<=N) (ae (vY ()) λI:List Int×al=>aa ((),((true,I.1,()),blk,((N+k:Nat):Int),()),()))<|some ((),((decide<|64<=N,(if 64<=N then CI a (N / 64) else gB 8),()),blk,((N+k:Nat):Int),()),())) λy:al×To×al=>aa y)=aa ((),((true,CI a (N / 64),()),blk,((N+k:Nat):Int),()),()):=by refine⟨true,rfl,?_⟩;by_cases c:64<=N;{simp only[c,ad0,zx];rfl};have:N / 64=0:=ai;simp only[c,decide_false,if_false,this,afV];rfl
  obtain⟨_,_,G⟩:=G;have J:(ao (nt<|decide<|64<=N) (ae (vY ()) λI:List Int×al=>aa ((),((true,I.1,()),blk,((N+k:Nat):Int),()),())) (aa ((),((decide<|64<=N,(if 64<=N then CI a (N / 64) else gB 8),()),blk,((N+k:Nat):Int),()),())):Option (al×To×al))=aa ((),((true,CI a (N / 64),()),blk,((N+k:Nat):Int),()),()):=by (have:∀o:Option (al×To×al),(ae o λy=>aa y)=o:=by intro o;cases o<;>rfl);exact(this _).symm.trans G
  rw[J,ab,afR,ab,WX blk g,ab];dsimp only;have K:=CJ a (N / 64);have W:=nO (CI a<|N / 64) 0 (i:=0) (k:=0) rfl ai;have X:=nO (CI a<|N / 64) 0 (i:=1) (k:=1) rfl ai;have Y:=nO (CI a<|N / 64) 0 (i:=2) (k:=2) rfl ai;have Z:=nO (CI a<|N / 64) 0 (i:=3) (k:=3) rfl ai;have i4:=nO (CI a<|N / 64) 0 (i:=4) (k:=4) rfl ai;have i5:=nO (CI a<|N / 64) 0 (i:=5) (k:=5) rfl ai;have i6:=nO (CI a<|N / 64) 0 (i:=6) (k:=6) rfl ai;have i7:=nO (CI a<|N / 64) 0 (i:=7) (k:=7) rfl ai;have w0:within 0 8=true:=aI;have w1:within 1 8=true:=aI;have w2:within 2 8=true:=aI;have w3:within 3 8=true:=aI;have w4:within 4 8=true:=aI;have w5:within 5 8=true:=aI;have w6:within 6 8=true:=aI;have w7:within 7 8=true:=aI;simp only[w0,w1,w2,w3,w4,w5,w6,w7,aj,W,X,Y,Z,i4,i5,i6,i7,ab];have hr:=acD (CG blk) (JH blk) (of8<|CI a<|N / 64) () ();rw[show((CI a _).getD 0 0,(CI a _).getD 1 0,(CI a _).getD 2 0,(CI a _).getD 3 0,(CI a _).getD 4 0,(CI a _).getD 5 0,(CI a _).getD 6 0,(CI a _).getD 7 0,0,())=yO (of8<|CI a _) 0 from rfl,hr,ab,aji _ ((true,CI a _,()),blk,_,()) K,ab,ab,j8];refine⟨_,by rw[w],?_⟩;refine⟨blk,?_,g,?_⟩;{(rw[e];have c:64<=N+k:=ai;simp only[c,ad0,zx];have L:CI (a++part.take (64-N % 64)) ((N+k) / 64)=CH (CI a<|N / 64) (oY<|ZH Lj (CG blk) (of8<|CI a<|N / 64) 64) 8:=by rw[A];simp only[CI];rw[aeA a _ _ ai,n,z];rfl);rw[L]};rw[e,F,Iu ai];rfl
 .have hnf:N % 64+k<64:=ai;simp only[ax<|show((N % 64+k:Nat):Int)≠64 by omega,ag,ab,j8];refine⟨_,by rw[w],?_⟩;have A:(N+k) / 64=N / 64:=ai;refine⟨_,?_,g,?_⟩;{rw[e,A];by_cases c:64<=N;{have f:64<=N+k:=ai;simp only[c,f];rw[aeA a _ _ ai]};have f:¬64<=N+k:=ai;simp only[c,f,if_false]};rw[e,A,ahx (by rw[gx,gR,b,j];omega),Is (by rw[gx,gR];omega),abn ai]
def ajk:∀n a all c,a.length<=n->Inv c all->all.length+a.length<1152921504606846976 ->
  ∃b,Loop fK ((a,()),c,())=aa (([],()),b,())/\Inv b (all++a):=by
 intro n;induction n with|zero =>(intro a all c h e f;rw[aZ];have:fK (([],()),c,())=aa (.inr (([],()),c,())):=by unfold fK;rw[show nt _=false from rfl,ag,mW]);grind|succ n i =>intro a all c h e f;by_cases j:a=[];{grind};obtain⟨d,k,l⟩:=ajj a all c j e f;obtain⟨b,m,g⟩:=i (a.drop<|64-all.length % 64) _ d (by rw[qo];omega) l (by rw[gR,cY,qo];omega);refine⟨b,?_,by rw[rO,Ba] at g;exact g⟩;rw[aZ,k];exact m
def OQ part all st (b:Inv st all) (c:all.length+part.length<1152921504606846976):∃a,gg ((part,()),st,())=aa ((),a,())/\Inv a (all++part):=by obtain⟨a,d,e⟩:=ajk part.length part all st (b8 _) b c;refine⟨a,?_,e⟩;unfold gg;rw[d,ab]
def zs(n:Nat):Nat:=(119-n % 64) % 64
def jg(n k:Nat):Int:=kg .u8 (jv .u64 (jt .u64 (kg .u64 (n:Int)) 8) ((8*k:Nat):Int))
def Tp(n:Nat):List Int:=[jg n 7,jg n 6,jg n 5,jg n 4,jg n 3,jg n 2,jg n 1,jg n 0]
def pad(s:bj):bj:=s++[128]++List.replicate (zs s.length) 0++br (Tp s.length)
def HX s:(pad s).length=s.length+1+zs s.length+8:=by simp[pad,br,Tp];omega
def aeB s:(pad s).length % 64=0:=by rw[HX];unfold zs;omega
def jM s:br (aB s)=s:=by
 unfold br aB;rw[Yl];conv=>rhs;rw[<-List.map_id s]
 apply Pd;simp_all
def AJ a b:br (a++b)=br a++br b:=by simp[br]
def ZJ s (b:s.length<=1048576):Loop lg (((),()),aB s++[128],())=aa (((),()),aB s++[128]++gB (zs s.length),()):=by
 have c:zs s.length<64:=D7 _ aI;have:=cp (f:=lg) (zs s.length) (λj=>(((),()),aB s++[128]++gB j,())) (λj a=>by
  unfold lg;have el:len (aB s++[128]++gB j)=((s.length+1+j:Nat):Int):=by unfold len;simp[aB,gB];omega
  rw[ax aI,ag,el,show((64:Int))=((64:Nat):Int) from rfl,ub,ax (by unfold zs at a;omega),show nt false=true from rfl,aj,dN (by simp only[plus,len,VL];omega),aj,j8];congr 4;show aB s++[128]++gB j++[0]=_;rw[rO,show gB j++[0]=gB (j+1) from by simp[gB,List.replicate_succ']])
  (by (unfold lg;have el:len (aB s++[128]++gB (zs s.length))=((s.length+1+zs s.length:Nat):Int):=by unfold len;simp[aB,gB];omega);rw[ax aI,ag,el,show(64)=((64:Nat):Int) from rfl,ub,ay (by unfold zs;omega),show nt true=false from rfl,ag,mW])
 have d:aB s++[128]++gB 0=aB s++[128]:=by simp[gB]
 grind
def afW s b (g:s.length<=1048576) (h:b.length<=2097152) u:Loop (e9 (s,u)) (((),7,()),b,())=aa (((),-1,()),b++Tp s.length,()):=by
 have step:∀(k:Nat) c,k<=7->c.length<=2097160->e9 (s,u) (((),k,()),c,())=aa (.inl (((),k-1,()),c++[jg s.length k],())):=by
  intro k c a d;unfold e9;dsimp only;have f:jt .i64 8 k=((8*k:Nat):Int):=by rw[ED ai ai];omega
  rw[ f,dN (by simp only[plus,len,VL];omega),dc ai ai];rfl
 have e:∀c,e9 (s,u) (((),(-1),()),c,())=aa (.inr (((),-1,()),c,())):=by intro c;unfold e9;dsimp only;rw[cN aI,ag,mW]
 have L:∀(k:Nat) c,k<=7->c.length<=2097160->Loop (e9 (s,u)) (((),(k:Int),()),c,())=Loop (e9 (s,u)) (((),k-1,()),c++[jg s.length k],()):=by intro k c a d;rw[aZ,step k c a d];rfl
 refine(L 7 b ai ai).trans ((L 6 _ ai dW).trans<|(L 5 _ ai dW).trans<|(L 4 _ ai dW).trans<|(L 3 _ ai dW).trans<|(L 2 _ ai dW).trans<|(L 1 _ ai dW).trans<|(L 0 _ ai dW).trans ?_);have:b++[jg s.length 7]++[jg s.length 6]++[jg s.length 5]++[jg s.length 4]++[jg s.length 3]++[jg s.length 2]++[jg s.length 1]++[jg s.length 0]=b++Tp s.length:=by simp[Tp]
 rw[this,aZ];rfl
def afX s (a:s.length<=1048576):vh (s,())=aa (pad s,()):=by
 have b:zs s.length<64:=D7 _ aI;unfold vh;dsimp only;rw[dN ep,dN (by simp only[plus,len,VL,gx];omega),show app _ _=aB s++[128] from rfl,ZJ s a,ab,afW s _ a<|by simp[gx,gB];omega,ab,AJ,AJ,AJ,jM];have:br (gB<|zs s.length)=List.replicate (zs s.length) 0:=by unfold br gB;rw[List.map_replicate];rfl
 rw[this];rfl
def acF t (c:t.length % 64=0) (d:t.length<=2097152) u:Loop (oH (t,u)) ((0,()),H0,())=aa (((t.length:Int),()),CI t<|t.length / 64,()):=by
 have:=cp (f:=oH (t,u)) (t.length / 64) (λj=>((((64*j:Nat):Int),()),CI t j,())) (λj e=>by
  unfold oH;dsimp only;rw[eh ai ai,bL ep,aV ai ai ep];have b:sub t ((64*j:Nat):Int) (minus (((64*j:Nat):Int)+64) ((64*j:Nat):Int))=(t.drop<|64*j).take 64:=by unfold sub minus;grind
  rw[b,afU _ (CJ t j) _ (by rw[cY,qo];omega)];rfl)
  (by unfold oH;dsimp only;have a:64*(t.length / 64)=t.length:=ai;rw[a,eh ai ai,cN ep,ag,mW])
 exact this
def arq(h:List Int)(i:Nat):Int:=kg .u8 (jv .u32 (h.getD (i / 4) 0) ((24-8*(i % 4):Nat):Int))
def ZK(h:List Int):Nat->List Int|0=>gB 32|i+1=>(ZK h i).set i (arq h i)
def EJ h i:(ZK h i).length=32:=by induction i with|zero=>rfl|succ i a=>simp[ZK,a]
def aeC:([0,0,0,0,0,0,0,0,0,0,0,0,0,0,0,0,0,0,0,0,0,0,0,0,0,0,0,0,0,0,0,0]:List Int)=gB 32:=rfl
def ajl{a:Nat}(h:a<4611686018427387904):KB .i64 a 4=((a / 4:Nat):Int):=by unfold KB;have:=xT (a:=((a / 4):Int)) ai ai;unfold kg at this;grind
def ZL{h o:List Int}(a:h.length=8)(b:o.length=32)(i:Nat)(c:i<32):KB .i64 i 4=((i / 4:Nat):Int)/\cR .i64 24 (jt .i64 8<|fX i 4)=((24-8*(i % 4):Nat):Int):=by refine⟨ajl ai,?_⟩;rw[show 4=((4:Nat):Int) from rfl,ub,ED ai ai,dc ai ai];omega
def alB h (a:h.length=8) q u:Loop (ti (q,h,u)) ((0,()),gB 32,())=aa ((32,()),ZK h 32,()):=by
 refine cp 32 (λi=>(((i:Int),()),ZK h i,())) (λi b=>?_) ?_
 .have c:=EJ h i;obtain⟨d,e⟩:=ZL a c i b;unfold ti;dsimp only;rw[aT ai,d,aO ai ai,aj,fD h 0 ai,e,aO ai ai,fD _ 0 ai,aJ ai]
  rfl
 unfold ti;dsimp only;rfl
def alC h w (f:h.length=8) g n (a b c d e:al) r:Loop (kK (r,((g,h,a),w,n,b),c)) ((0,()),gB 32,())=aa ((32,()),ZK h 32,()):=by
 refine cp 32 (λi=>(((i:Int),()),ZK h i,())) (λi j=>?_) ?_
 .have k:=EJ h i;obtain⟨l,m⟩:=ZL f k i j;unfold kK;dsimp only;rw[aT ai,l,aO ai ai,aj,fD h 0 ai,m,aO ai ai,fD _ 0 ai,aJ ai]
  rfl
 unfold kK;dsimp only;rfl
def sha(s:bj):List Int:=ZK (CI (pad s)<|(pad s).length / 64) 32
def r8 s:(sha s).length=32:=EJ _ _
def acG s (a:s.length<=1048576):zM (s,())=aa (sha s,()):=by have b:zs s.length<64:=D7 _ aI;unfold zM;rw[Tn,ab,afX s a,ab,acF _ (aeB s) (by rw[HX];omega),ab,aeC,alB _ (CJ _ _),ab];dsimp only[sha]
def afY s (o:s.length<=1152921504606840000) st (c:Inv st (s++[128])):∃a,Loop eC ((),st,())=aa ((),a,())/\Inv a (s++[128]++List.replicate (zs s.length) 0):=by
 have p:zs s.length<64:=D7 _ aI;have key:∀m j st,j+m=zs s.length->Inv st (s++[128]++List.replicate j 0)->∃a,Loop eC ((),st,())=aa ((),a,())/\Inv a (s++[128]++List.replicate (zs s.length) 0):=by intro m;induction m with|zero =>(intro j st f c;obtain rfl:j=zs s.length:=ai;refine⟨st,?_,c⟩;obtain⟨b,rfl,h,i⟩:=c;rw[aZ];have:eC ((),((decide<|64<=(s++[128]++List.replicate (zs s.length) 0).length,(if 64<=(s++[128]++List.replicate (zs s.length) 0).length then CI (s++[128]++List.replicate (zs s.length) 0) ((s++[128]++List.replicate (zs s.length) 0).length / 64) else gB 8),()),b,((s++[128]++List.replicate (zs s.length) 0).length:Int),()),())=aa (.inr ((),((decide<|64<=(s++[128]++List.replicate (zs s.length) 0).length,(if 64<=(s++[128]++List.replicate (zs s.length) 0).length then CI (s++[128]++List.replicate (zs s.length) 0) ((s++[128]++List.replicate (zs s.length) 0).length / 64) else gB 8),()),b,((s++[128]++List.replicate (zs s.length) 0).length:Int),()),())):=by have k:(s++[128]++List.replicate (zs s.length) 0).length=s.length+1+zs s.length:=dW;unfold eC;rw[ax aI,ag,k,show(64)=((64:Nat):Int) from rfl,ub,ay (by unfold zs;omega),show nt true=false from rfl,ag,mW]);grind|succ m l =>(intro j st f c;obtain⟨d,n,g⟩:=OQ [0] _ st c dW;obtain⟨a,q,r⟩:=l (j+1) d ai (by rw[rO,show List.replicate j (0:UInt8)++[0]=List.replicate _ 0 from by rw[List.replicate_succ']] at g;exact g));(rw[aZ];have e:st.2.2.1=((s.length+1+j:Nat):Int):=by obtain⟨b,rfl,h,i⟩:=c;grind);(have:eC ((),st,())=aa (.inl ((),d,())):=by unfold eC;rw[ax aI,ag,e,show(64)=((64:Nat):Int) from rfl,ub,ax (by unfold zs at f;omega),show nt false=true from rfl,aj,n,ab,j8]);grind
 exact key (zs s.length) 0 st ai (by simpa using c)
def ajm(n:Nat)(i:n<=1152921504606840000)(a:To)(b:a.2.2.1=n) u v:Loop (kJ (u,a,v)) ((0,()),gB 8,())=aa ((8,()),Tp n,()):=by
 obtain⟨d,e,m,q⟩:=a;have step:∀(k:Nat) c,k<8->c.length=8->kJ (u,(d,e,n,q),v) ((k,()),c,())=aa (.inl ((((k+1):Int),()),c.set (7-k)<|jg n k,())):=by
  intro k c f j;unfold kJ;dsimp only;have g:jt .i64 8 k=((8*k:Nat):Int):=by rw[ED ai ai];omega
  have h:cR .i64 7 k=((7-k:Nat):Int):=by rw[dc ai ai];omega
  rw[aT ai,g,h,aO ai ai,fD c 0 ai,aJ ai];rfl
 have:=cp 8 (λk=>(((k:Int),()),(match k with
  | 0=>gB 8
  | 1=>[0,0,0,0,0,0,0,jg n 0]
  | 2=>[0,0,0,0,0,0,jg n 1,jg n 0]
  | 3=>[0,0,0,0,0,jg n 2,jg n 1,jg n 0]
  | 4=>[0,0,0,0,jg n 3,jg n 2,jg n 1,jg n 0]
  | 5=>[0,0,0,jg n 4,jg n 3,jg n 2,jg n 1,jg n 0]
  | 6=>[0,0,jg n 5,jg n 4,jg n 3,jg n 2,jg n 1,jg n 0]
  | 7=>[0,jg n 6,jg n 5,jg n 4,jg n 3,jg n 2,jg n 1,jg n 0]
  | _=>Tp n),())) (λk f=>by rcases(by omega:k=0\/k=1\/k=2\/k=3\/k=4\/k=5\/k=6\/k=7) with rfl|rfl|rfl|rfl|rfl|rfl|rfl|rfl<;>exact(step _ _ ai rfl).trans rfl)
  (by rfl)
 grind
def alD s (o:s.length<=1048576) st (h:Inv st s) u v:pw (u,st,v)=aa ((sha s,()),st,()):=by
 have p:zs s.length<64:=D7 _ aI;have b:st.2.2.1=s.length:=by obtain⟨a,rfl,_⟩:=h;rfl
 obtain⟨c,i,j⟩:=OQ [128] s st h dW;obtain⟨d,k,l⟩:=afY s ai c j;obtain⟨e,m,n⟩:=OQ (br<|Tp s.length) _ d l (by simp[br,Tp];omega);unfold pw;rw[aeC,show br _=[128] from rfl,i,ab,k,ab,show([0,0,0,0,0,0,0,0])=gB 8 from rfl,ajm s.length ai st b,ab,aV aI aI aI,aj,show sub _ 0 _=Tp s.length from rfl,m,ab];have f:Inv e (pad s):=n;obtain⟨a,rfl,q,r⟩:=f;have g:64<=(pad s).length:=by have:=aeB s;rw[HX] at this⊢;omega
 simp only[g,zx];rw[alC _ _ (CJ _ _) _ _ () () () () () (),ab];dsimp only[sha]
def acH s (b:s.length<=1048576):FQ (s,())=aa (sha s,()):=by obtain⟨a,c,d⟩:=OQ s [] ajh arp dW;unfold FQ;rw[show((false,([0,0,0,0,0,0,0,0]),()),([0,0,0,0,0,0,0,0,0,0,0,0,0,0,0,0,0,0,0,0,0,0,0,0,0,0,0,0,0,0,0,0,0,0,0,0,0,0,0,0,0,0,0,0,0,0,0,0,0,0,0,0,0,0,0,0,0,0,0,0,0,0,0,0]),_,())=ajh from rfl,c,ab,alD s b a<|by simpa using d,ab]
abbrev aso:=(Bool×bj×Int×al)×To×To×al
def Tq:bj:=[48,49,50,51,52,53,54,55,56,57,97,98,99,100,101,102]
def hx(n:Nat):UInt8:=Tq.getD n 0
def uT:bj->bj|[]=>[]|b::r=>hx (b.toNat / 16)::hx (b.toNat % 16)::uT r
def iE l:(uT l).length=2*l.length:=by induction l with|nil=>rfl|cons b r a=>simp only[uT,iG];omega
def ajn a b:uT (a++b)=uT a++uT b:=by induction a with|nil=>rfl|cons x r c=>simp only[Na,uT,c]
def alE:∀n:Fin 256,idx Tq (jv .u8 (n.val:Int) 4)=aa (hx<|n.val / 16):=by decide +kernel
def alF:∀n:Fin 256,idx Tq (gT .u8 (n.val:Int) 15)=aa (hx<|n.val % 16):=by decide +kernel
def anU b:idx Tq (jv .u8 (u8 b) 4)=aa (hx<|b.toNat / 16):=alE ⟨b.toNat,b.toNat_lt⟩
def anV b:idx Tq (gT .u8 (u8 b) 15)=aa (hx<|b.toNat % 16):=alF ⟨b.toNat,b.toNat_lt⟩
def BC s {k:Nat} h:idx (aB s) k=aa (u8 s[k]):=by rw[xC];simp[aB,u8,h]
def FZ(s:bj){k:Nat} h:idx s k=aa s[k]:=by rw[xC];simp
def lL s:len (aB s)=(s.length:Int):=by simp[len,aB]
def WY(s:bj){k} h:s.take (k+1)=s.take k++[s[k]]:=by rw[yn,gQ h];rfl
def aeD(s:bj){k} h:aB (uT<|s.take<|k+1)=(aB (uT<|s.take k)++[u8<|hx<|s[k].toNat / 16])++[u8<|hx<|s[k].toNat % 16]:=by rw[WY s h,ajn,vH,rO];rfl
def ajo(s:bj)(a:s.length<=1048576){k}(h:k<s.length)(x y:Int) :
  fits (plus (len<|aB<|uT<|s.take k)<|len [x])=true/\fits (plus (len<|aB (uT<|s.take k)++[x])<|len [y])=true:=by
 constructor
 .apply dN;rw[lL,iE];simp only[cY,plus,len,iG,qp];omega
 .apply dN;have:(aB (uT<|s.take k)++[x]).length=2*min k s.length+1:=by rw[gR,gx,iE,cY];rfl
  simp only[plus,len,iG,qp];omega
def WZ s (b:s.length<=1048576):l9 (s,())=aa (uT s,()):=by
 unfold l9;rw[dN<|by simp only[len];omega,aj];have key:Loop (mH (s,())) ((0,()),((),(),()),[],())=aa (((s.length:Int),()),((),(),()),aB<|uT s,()):=by
  have:=cp (f:=mH (s,())) s.length (λk=>((k,()),((),(),()),aB<|uT _,())) (λk a=>by
   unfold mH;dsimp only;obtain⟨c,d⟩:=ajo s b a _ _;rw[lL,aT ai,aj,aO ai ai,aj,BC s a,ab,aF aI,ag,show([48,49,50,51,52,53,54,55,56,57,97,98,99,100,101,102])=Tq from rfl,anU,ab,c,aj,anV,ab];unfold app;rw[d,aj,j8,aJ ai,aeD s a]) (by
   unfold mH;dsimp only;rw[lL,aF ai,ag,mW,Ao])
  exact this
 rw[key,ab,jM]
def ars:∀n:Fin 16,nf ((n.val:Int),())=aa (u8<|hx n.val,()):=by decide +kernel
def OR{n:Nat}(h:n<16):nf (n,())=aa (u8<|hx n,()):=ars ⟨n,h⟩
def ajp:∀n:Fin 256,KB .i64 (kg .i64 (n.val:Int)) 16=((n.val / 16:Nat):Int):=by decide +kernel
def ajq:∀n:Fin 256,fX (kg .i64 (n.val:Int)) 16=((n.val % 16:Nat):Int):=by decide +kernel
def anW b:KB .i64 (kg .i64<|u8 b) 16=((b.toNat / 16:Nat):Int):=ajp ⟨b.toNat,b.toNat_lt⟩
def anX b:fX (kg .i64<|u8 b) 16=((b.toNat % 16:Nat):Int):=ajq ⟨b.toNat,b.toNat_lt⟩
def QT s (b:s.length<=1048576):vZ (s,())=aa (uT s,()):=by
 unfold vZ;have key:Loop (oJ (s,())) (((),0,()),[],())=aa (((),(s.length:Int),()),aB<|uT s,()):=by
  have:=cp (f:=oJ (s,())) s.length (λk=>(((),k,()),aB _,())) (λk a=>by
   unfold oJ;dsimp only;obtain⟨c,d⟩:=ajo s b a _ _;have e:=s[k].toNat_lt;rw[show len s=s.length from rfl,aT ai,aj,FZ s a,ab,ax aI,ag,anW,OR ai,ab];dsimp only;rw[c,aj,ab,ag,anX,OR ai,ab];unfold app;rw[d,aj,j8,aJ ai,aeD s a]) (by
   unfold oJ;dsimp only;rw[show len s=s.length from rfl,aF ai,ag,mW,Ao])
  exact this
 rw[key,ab,jM]
def hv(c:UInt8):Int:=Lib.indexByte Tq c
def hvT:∀n:Fin 256,(hv (UInt8.ofNat n.val)=-1/\∀j:Fin 16,hx j.val≠UInt8.ofNat n.val)\/∃j:Fin 16,hv (UInt8.ofNat n.val)=(j.val:Int)/\hx j.val=UInt8.ofNat n.val/\∀i:Fin 16,i.val<j.val->hx i.val≠UInt8.ofNat n.val:=by decide +kernel
def QU c:(hv c=-1/\∀j,j<16->hx j≠c)\/∃j:Nat,j<16/\hv c=j/\hx j=c/\∀i,i<j->hx i≠c:=by
 have h:=hvT ⟨c.toNat,c.toNat_lt⟩;simp at h;rcases h with ⟨a,b⟩|⟨j,a,b,e⟩
 {exact .inl ⟨a,λj f=>b ⟨j,f⟩⟩};exact .inr ⟨j.val,j.isLt,a,b,λi d=>e ⟨i,Nat.lt_trans d j.isLt⟩ d⟩
def ani:∀n:Fin 16,hv (hx n.val)=(n.val:Int):=by decide +kernel
def acI{a b}(h:u8 a=u8 b):a=b:=by
 have:a.toNat=b.toNat:=by unfold u8 at h;omega
 exact Yh.1 this
def UY c:qw (u8 c,())=aa (hv c,()):=by
 unfold qw;have step:∀r k,k<16->hx k≠c->fa (u8 c,()) ((r,k,()),())=aa (.inl _):=λr k a b=>by unfold fa;dsimp only;rw[aT ai,aj,OR a,ab,ax (λe=>b (acI e)),ag,aJ ai]
 rcases QU c with ⟨d,g⟩|⟨j,h,d,g,i⟩
 .have:=cp 16 _ (λk a=>step 0 k a (g k a)) (by unfold fa;dsimp only;rw[aF aI,ag])
  rw[show Loop (fa (u8 c,())) ((0,0,()),())=_ from this,ab];dsimp only;rw[show cF 0 0=true from rfl,aj,d]
 have:=cp (f:=fa _) j _ (λk a=>step 0 k ai (i k a)) (by unfold fa;dsimp only;rw[aT ai,aj,OR h,ab,ay (by rw[g]),aj])
 rw[show Loop (fa _) ((0,0,()),())=_ from this,ab,show cF 1 0=false from rfl,ag,d]
def nP:bj->Option bj|[]=>aa []|[_]=>af|a::b::r=>if hv a<0\/hv b<0 then af else(nP r).map (UInt8.ofNat (16*(hv a).toNat+(hv b).toNat)::·)
def apx:∀(i j:Fin 16),kg .u8 (aC .i64 (jt .i64 16 (i.val:Int)) (j.val:Int))=u8 (UInt8.ofNat<|16*i.val+j.val):=by decide +kernel
def ZM(l:bj) k (h:k<=l.length):sub l k (minus (len l) k)=l.drop k:=by unfold sub minus len;rw[An,Is (by rw[qo];omega)]
def ans:Option bj->bj×Bool×al|some l=>(l,true,())|none=>([],false,())
def acJ:∀n s,s.length<=n->s.length % 2=1->nP s=none:=by
 intro n;induction n using Nat.strongRecOn with
 | _ n d =>
   intro s c h
   match s,c,h with|[],_,h=>simp at h|[_],_,_=>rfl|a::b::r,c,h =>simp at c h;simp only[nP];split;{rfl};rw[d r.length ai r (b8 _) ai];rfl
def yP{a b:Nat}(h:a+b<4611686018427387904):aC .i64 a b=((a+b:Nat):Int):=by rw[eh ai ai];omega
def Tr(s:bj)(A:s.length<=1048576):∀n i c,s.length-i<=n->i<=s.length->(s.length-i) % 2=0->c.length<=i ->
  ∃q,Loop (iH (s,())) ((([]:bj),false,(),(i:Int),()),c,())=aa q/\(match nP (s.drop i) with|some l=>q.1=0/\q.2.2.1=c++aB l|none=>q.1=1/\q.2.1.1=[]/\q.2.1.2.1=false):=by
 intro n;induction n using Nat.strongRecOn with
 | _ n u =>
   intro i c B C D E;rw[aZ];by_cases e:i<s.length
   .have p:i+1<s.length:=ai;have hd:s.drop i=s[i]::s[i+1]::s.drop (i+2):=by rw[zm e,zm p]
    rw[hd];generalize v:s[i]=a;generalize o:s[i+1]=b;have e0:iH (s,()) ((([]),false,(),i,()),c,())=(if hv a<0\/hv b<0 then aa (.inr (1,([],false,(),i,()),c,()))
      else aa (.inl ((([]),false,(),((i+2):Int),()),c++[u8<|UInt8.ofNat<|16*(hv a).toNat+(hv b).toNat],()))):=by
     unfold iH;rw[aJ ai,aT (by simp only[len];omega),aj,FZ s e,ab,v,UY,ab,FZ s p,ab,o,UY,ab];by_cases f:hv a<0
     .rw[aT f,aM,ag,aj,aN (.inl f)]
     .rw[aF ai,aE,aj];by_cases g:hv b<0
      .rw[aT g,aj,aN (.inr g)]
      .rw[aF ai,aK ai];have w:kg .u8 (aC .i64 (jt .i64 16<|hv a)<|hv b)=u8 (UInt8.ofNat<|16*(hv a).toNat+(hv b).toNat):=by
        rcases QU a with ⟨h,_⟩|⟨j,x,h,_⟩
        .omega
        rcases QU b with ⟨r,_⟩|⟨k,y,r,_⟩
        .omega
        rw[h,r];exact apx ⟨j,x⟩ ⟨k,y⟩
       rw[w,dN (by simp only[plus,len,iG,qp];omega),show aC .i64 i 2=_ from yP (b:=2) ai];rfl
    rw[e0];by_cases d:hv a<0\/hv b<0
    .rw[aN d];refine⟨_,rfl,?_⟩;simp only[nP,aN d];exact⟨trivial,trivial,trivial⟩
    .rw[aK d];obtain⟨q,z,m⟩:=u (s.length-(i+2)) ai _ (c++[u8 _]) (b8 _) ai ai dW;refine⟨q,z,?_⟩;simp only[nP,aK d];cases t:nP _ with
     | none=>rw[t] at m;exact m
     | some l =>
       rw[t] at m;refine⟨m.1,?_⟩;rw[m.2,rO];rfl
   .have:i=s.length:=ai;subst this;rw[Ix];refine⟨(0,([],false,(),s.length,()),c,()),?_,rfl,by simp[aB]⟩;unfold iH;rw[aJ ai,aF (by simp only[len];omega)];rfl
def JI s (c:s.length<=1048576):qx (s,())=aa (ans<|nP s):=by
 unfold qx;rw[ show fX (len s) 2=_ from ub s.length 2];rcases Nat.mod_two_eq_zero_or_one s.length with h|h
 {rw[h];obtain⟨q,d,a⟩:=Tr s c s.length 0 [] ai ai (by simpa using h) aW;rw[show Loop (iH _) (([],false,(),0,()),_)=aa q from d,ab];rw[D6] at a;cases b:nP s with|none =>rw[b] at a;rw[a.1,a.2.1,a.2.2];rfl|some l =>rw[b] at a;rw[a.1,a.2,Gn,jM];rfl};rw[h,acJ s.length s (b8 _) h];rfl
def F0:∀l,nP (uT l)=aa l:=by intro l;induction l with|nil=>rfl|cons b r a =>have c:=b.toNat_lt;simp only[uT,nP,(ani ⟨b.toNat / 16,ai⟩),(ani ⟨b.toNat % 16,ai⟩),a];rw[aK ai,An,An,show 16*_+b.toNat % 16=b.toNat by omega];simp
def acK:bj:=[115,104,97,50,53,54,58]
def ql(s:bj):bj:=acK++uT (br<|sha s)
def MB s:(ql s).length=71:=by unfold ql;rw[gR,iE];simp[br,r8,acK]
def UZ{α}(l:List α) n (h:l.length=n):sub l 0 (minus n 0)=l:=by unfold sub minus;rw[show((0:Int).toNat)=0 from rfl,D6,Is ai]
def ajr s (a:s.length<=1048576):oI (s,())=aa (ql s,()):=by unfold oI;rw[acH s a,ab,show sub _ 0 (minus 32 0)=sha s from UZ _ 32 (r8 s),WZ _ (by simp[br,r8]),ab];dsimp only;rw[dN<|by simp only[plus,len,iE,br,qg,r8,iG,qp];omega];rfl
def F1 s (a:s.length<=1048576):oK (s,())=aa (ql s,()):=by unfold oK;rw[acG s a,ab,show sub _ 0 (minus 32 0)=sha s from UZ _ 32 (r8 s),QT _ (by simp[br,r8]),ab];dsimp only;rw[dN<|by simp only[plus,len,iE,br,qg,r8,iG,qp];omega];rfl
def alG(t:bj):Int:=if t.length=71/\t.take 7=acK/\(nP<|t.drop 7).isSome=true then 0 else 2
def QV(l:bj)(k:Nat):sub l 0 (minus k 0)=l.take k:=by unfold sub minus;rw[show((0:Int).toNat)=0 from rfl,D6,Int.sub_zero,An]
def W0 t (b:t.length<=1048576):vj (t,())=aa (alG t,()):=by
 unfold vj alG;by_cases a:t.length=71
 .rw[ay<|by simp only[len];omega,aM,aE,aj,aV aI aI (by simp only[len];omega),aj,ab,
   show sub t 0 (minus 7 0)=t.take 7 from QV t 7,show([115,104,97,50,53,54,58])=acK from rfl]
  by_cases h:t.take 7=acK
  .rw[h,yC,aM,ag,aV aI (by simp only[len];omega) (sK _),aj,
    show sub t 7 (minus _ 7)=t.drop 7 from ZM t 7 ai,JI _ (by rw[qo];omega),ab]
   cases c:nP _ with|none =>rw[aK aW];show ao (nt false) _ _=_;rw[aE,aj]|some l =>show ao (nt true) _ _=_;rw[aM,ag,aN ⟨a,rfl,rfl⟩]
  rw[show bA _ acK=false from cj h,aE,aj,aK λe=>h e.2.1]
 rw[ax<|by simp only[len];omega,aE,aM,ag,ab,aj,aK λe=>a e.1]
def afZ s:(ql s).take 7=acK:=adV rfl
def af0 s:(ql s).drop 7=uT (br<|sha s):=ahS rfl
def acL s:alG (ql s)=0:=by
 have a:(nP<|(ql s).drop 7).isSome=true:=by rw[af0,F0];rfl
 exact aN ⟨MB s,afZ s,a⟩
def art(n k:Nat):UInt8:=UInt8.ofNat (48+n / 8 ^ k % 8)
def acM(n:Nat):Nat->bj|0=>[]|k+1=>art n k::acM n k
set_option maxRecDepth 100000
def de(p:UInt8->Bool)(s:bj):bj:=(s.reverse.dropWhile p).reverse
def yQ{p} s {x} (h:p x=true):de p (s++[x])=de p s:=by simp[de,h]
def AK{p} s {x} (h:p x=false):de p (s++[x])=s++[x]:=by simp[de,h]
def U0{p}:∀z s,(∀x∈z,p x=true)->de p (s++z)=de p s:=by intro z;induction z with|nil=>intro s _;rw[zo]|cons x r a =>intro s h;rw[show s++x::r=(s++[x])++r by simp,a _ (λy b=>h y (wG _ b)),yQ s (h x<|pg ..)]
def ajs{p s}(h:∀x,s.getLast?=aa x->p x=false):de p s=s:=by
 rcases adL s with rfl|⟨r,x,rfl⟩
 {rfl};have:=h x aW;rw[ahF];exact AK r this
def ZN(r:bj) x (a:r.length<=1048576):cR .i64 (len<|r++[x]) 1=(r.length:Int)/\idx (r++[x]) (r.length:Int)=aa x:=by
 constructor
 .have:len (r++[x])=((r.length+1):Int):=by simp[len]
  rw[ dc ai ai];omega
 rw[xC];simp
def Ts c:∀n s,s.length<=n->s.length<=1048576->∀q,Loop (fx (q,c,())) ((s,()),())=aa ((de (λx=>aR (u8 x) c) s,()),()):=by intro n;induction n with|zero =>(intro s h _ q;obtain rfl:s=[]:=Am.1 ai;rw[aZ];rfl)|succ n e =>intro s h a q;rcases adL s with rfl|⟨r,x,rfl⟩;{grind};(rw[ahF] at h a⊢;rw[gR] at h a;obtain⟨b,d⟩:=ZN r x ai;rw[aZ];have e0:fx (q,c,()) ((r++[x],()),())=if aR (u8 x) c=true then aa (.inl ((r,()),())) else aa (.inr ((r++[x],()),())):=by unfold fx;rw[aT<|by simp only[len,gR,iG];omega,aj,b,d,ab,ab];cases hx:aR _ c with|true =>rw[aj,aV ai ai (by simp only[len,gR];omega),aj,j8,show sub _ 0 _=r from by rw[QV];simp,aN rfl]|false=>rw[ag,mW,aK aW]);rw[e0];cases hx:aR _ c with|true =>rw[ yQ r hx];grind|false =>rw[ AK r hx];rfl
def zZ s c (a:s.length<=1048576):fb (s,c,())=aa (de (λx=>aR (u8 x) c) s,()):=by unfold fb;rw[Ts c s.length s (b8 _) a s,ab]
def da(x:UInt8):Bool:=aR (u8 x) 0
def BD x:da x=true↔x=0:=by
 unfold da aR;rw[Pe];constructor
 {intro h;exact acI h};rintro rfl;rfl
def Tt s (a:s.length<=1048576):eD (s,[0],())=aa (de da s,()):=by
 unfold eD;by_cases h:s=[]
 .subst h;rfl
 rw[show bA s []=false from cj h,aE,aj,show aR _ 1=true from rfl,aj,show idx ([0]:bj) 0=aa 0 from rfl,ab,ab,ab,zZ s _ a]
 rfl
def yR:List Bool:=((List.replicate 256 false).set 0 true).set 32 true
def DX(x:UInt8):Bool:=yR.getD x.toNat false
def W1:yR.length=256:=by simp only[yR,ahQ,adK]
def anY:∀n:Fin 256,yR.getD n.val false=(decide (n.val=0)||decide (n.val=32)):=by decide +kernel
def ZO x:DX x=true↔x=0\/x=32:=by
 unfold DX;rw[anY ⟨x.toNat,x.toNat_lt⟩];simp;constructor
 {rintro(h|h);{exact .inl (Yh.1 h)};exact .inr (Yh.1 h)};rintro(rfl|rfl);{grind};grind
def W2 x:cG ((u8 x,()),yR,())=aa ((DX x,()),yR,()):=by unfold cG;have hx:=x.toNat_lt;have e:u8 x=x.toNat:=rfl;dsimp only;rw[e,aO ai ai,fD yR false (by show _<yR.length;rw[W1];omega)];rfl
def ZP:eu ([0,32],())=aa (yR,true,()):=by
 have key:Loop (eB ([0,32],())) ((false,0,()),List.replicate 256 false,())=aa (0,(false,2,()),yR,()):=by rw[aZ];show Loop _ _=_;rw[aZ];show Loop _ _=_;rw[aZ];rfl
 exact(congrArg (ae · _) key).trans rfl
def ZQ:∀n s,s.length<=n->s.length<=1048576->Loop cH ((s,()),yR,())=aa ((de DX s,()),yR,()):=by intro n;induction n with|zero =>(intro s h _;obtain rfl:s=[]:=Am.1 ai;rw[aZ];rfl)|succ n d =>intro s h a;rcases adL s with rfl|⟨r,x,rfl⟩;{grind};(rw[ahF] at h a⊢;rw[gR] at h a;obtain⟨b,c⟩:=ZN r x ai;rw[aZ];have e0:cH ((r++[x],()),yR,())=if DX x=true then aa (.inl ((r,()),yR,())) else aa (.inr ((r++[x],()),yR,())):=by unfold cH;rw[aT<|by simp only[len,gR,iG];omega,aj,b,c,ab,W2,ab];cases hx:DX x with|true =>rw[aM,ag,aV ai ai (by simp only[len,gR];omega),aj,j8,show sub _ 0 _=r from by rw[QV];simp,aN rfl]|false=>rw[aE,aj,mW,aK aW]);rw[e0];cases hx:DX x with|true =>rw[ yQ r hx];grind|false =>rw[ AK r hx];rfl
def JJ s (a:s.length<=1048576):eD (s,[0,32],())=aa (de DX s,()):=by
 unfold eD;by_cases h:s=[]
 {subst h;rfl};rw[show bA s []=false from cj h,aE,aj,show bA [0,32] []=false from rfl,ag,show aR _ 1=false from rfl,ag,ab,ZP,ab];unfold dM;rw[ZQ s.length s (b8 _) a];rfl
def Tu c:∀n s,s.length<=n->∀q,Loop (fS (q,c,())) ((s,()),())=aa ((s.dropWhile<|λx=>aR (u8 x) c,()),()):=by intro n;induction n with|zero =>(intro s h q;obtain rfl:s=[]:=Am.1 ai;rw[aZ];rfl)|succ n a =>intro s h q;cases s with|nil=>rw[aZ];rfl|cons x r =>(rw[aZ];have e0:fS (q,c,()) ((x::r,()),())=if aR (u8 x) c=true then aa (.inl ((r,()),())) else aa (.inr ((x::r,()),())):=by unfold fS;rw[aT<|by simp only[len,iG];omega,aj,show idx _ 0=aa x from rfl,ab,ab];cases hx:aR _ c with|true =>rw[aj,aV aI (by simp only[len,iG];omega) (sK _),aj,j8,show sub _ 1 _=r from ZM _ 1 aW,aN rfl]|false=>rw[ag,mW,aK aW]);rw[ X2];grind
def Lk s c:ib (s,c,())=aa (s.dropWhile<|λx=>aR (u8 x) c,()):=by unfold ib;rw[Tu c s.length s (b8 _) s,ab]
def Ll{p}{l:bj}{x}(h:x∈l.takeWhile p):p x=true:=wH.1 List.all_takeWhile x h
def ZR s (a:s.length<=1048576):iQ (s,[0],())=aa ((de da s).dropWhile da,()):=by
 unfold iQ;by_cases h:s=[]
 .subst h;rfl
 rw[show bA s []=false from cj h,aE,aj,show aR _ 1=true from rfl,aj,show idx ([0]:bj) 0=aa 0 from rfl,ab,ab,ab,zZ s _ a,ab,ab,Lk]
 rfl
def CK s:(de da s).dropWhile da=[]↔∀x∈s,x=0:=by
 constructor
 .intro h;have e:∀x∈de da s,da x=true:=by intro x a;have:=Al (p:=da) (l:=de da s);rw[h,zo] at this;rw[<-this] at a;exact Ll a
  have b:de da s=[]:=by rcases adL _ with b|⟨r,x,b⟩;{exact b};(exfalso;have a:=e x (by rw[b];simp);unfold de at b;have c:(s.reverse.dropWhile da)=x::r.reverse:=by grind);have:=List.head?_dropWhile_not da s.reverse;grind
  intro x a;have c:s.reverse.dropWhile da=[]:=by have:=congrArg List.reverse b;simpa [de] using this
  have:=Al (p:=da) (l:=s.reverse);rw[c,zo] at this;have d:=adR.2 a;rw[<-this] at d;exact(BD x).1 (Ll d)
 intro h;have:de da s=[]:=by have:=U0 s [] (λx a=>(BD x).2 (h x a));exact this
 simp_all
def QW b (c:b.length<=1048576):vk (b,())=aa (decide (b.length=512/\∀x∈b,x=0),()):=by
 unfold vk;by_cases h:b.length=512
 {rw[ay<|by simp only[len];omega,aj,ZR b c,ab,ab];unfold bA;by_cases a:∀x∈b,x=0;{rw[cT<|(CK b).2 a,cT ⟨h,a⟩]};rw[cj<|λe=>a ((CK b).1 e),cj λe=>a e.2]};rw[ax<|by simp only[len];omega,ag,ab,cj λe=>h e.1]
end Go.Ge
namespace Go.Ge
variable [Lp]
def anj:∀d:Fin 8,kg .i64 (cR .u8 ((48+d.val:Nat):Int) 48)=(d.val:Int):=by decide +kernel
def aru{v d:Nat}(a:d<8)(g:8*v+d<9223372036854775808):B6 .i64 (om .i64 v 3) (kg .i64<|cR .u8 ((48+d:Nat):Int) 48)=((8*v+d:Nat):Int):=by
 rw[anj ⟨d,a⟩];have b:om .i64 v 3=((8*v:Nat):Int):=by unfold om;rw[show min _ IntKind.i64.bits=3 from rfl,show v*2 ^ 3=((8*v):Int) by omega];exact xT ai ai
 rw[b];unfold B6;have e:(BitVec.ofInt IntKind.i64.bits ((8*v:Nat):Int) ||| BitVec.ofInt IntKind.i64.bits (d:Int)).toNat=8*v+d:=by
  rw[BitVec.toNat_or];have c:(BitVec.ofInt IntKind.i64.bits ((8*v:Nat):Int)).toNat=2 ^ 3*v:=by rw[ahI,show(IntKind.i64.bits)=64 from rfl];omega
  have f:(BitVec.ofInt IntKind.i64.bits d).toNat=d:=by rw[ahI,show(IntKind.i64.bits)=64 from rfl];omega
  rw[c,f,<-Nat.two_pow_add_eq_or_of_lt a]
 rw[e];exact xT ai ai
def BE(s:bj):Prop:=∀x∈s,x≠0
instance (s:bj):Decidable (BE s):=inferInstanceAs (Decidable (∀x∈s,x≠0))
def Lm:∀s,decide (Lib.indexByte s 0<0)=decide (BE s):=by intro s;induction s with|nil=>rfl|cons b r a =>unfold Lib.indexByte;by_cases d:b=0;{subst d;rw[aN<|by rfl,cj aI,cj λh=>h 0 (pg ..) rfl]};rw[aK<|by simpa using d];by_cases c:BE r;{rw[cT c] at a;have e:=gb a;have g:=(Dy 0 r).1;have f:Lib.indexByte r 0=-1:=ai;rw[f,cT aI,cT];intro x hx;rcases eK.1 hx with rfl|hx;{exact d};exact c x hx};rw[cj c] at a;have e:=Yb a;rw[aK dW,cj ai,cj];intro h;exact c λx hx=>h x (wG _ hx)
def JK s:dq (s,0,())=aa (Lib.indexByte s 0,()):=rfl
def JL s (a:s.length<=1048576):kq (s,())=aa (de da s,decide<|BE<|de da s,()):=by unfold kq;rw[Tt s a,ab,JK,ab];unfold ba;rw[Lm]
abbrev Hd:=bj×Int×Int×Int×Int×Int×Int×bj×al
def clr(s:bj)(a:Int):Prop:=s≠[]/\(s.length:Int)<=a/\BE s
instance (s:bj) (a:Int):Decidable (clr s a):=inferInstanceAs (Decidable<|_/\_/\_)
def W3(n b:Int):Prop:=0<=n/\n<b
instance (n b:Int):Decidable (W3 n b):=inferInstanceAs (Decidable<|_/\_)
def kindOk(h:Hd):Prop:=(h.2.1=1/\h.2.2.2.2.2.2.2.1=[])\/(h.2.1=2/\h.2.2.2.2.2.2.2.1=[]/\h.2.2.2.2.2.1=0)\/(h.2.1=3/\clr h.2.2.2.2.2.2.2.1 100/\h.2.2.2.2.2.1=0)
instance (h:Hd):Decidable (kindOk h):=inferInstanceAs (Decidable<|_\/_\/_)
def QX(h:Hd)(a:Int):Prop:=W3 h.2.2.1 2097152/\W3 h.2.2.2.1 2097152/\W3 h.2.2.2.2.1 2097152/\W3 h.2.2.2.2.2.1 8589934592/\W3 h.2.2.2.2.2.2.1 8589934592/\clr h.1 a/\kindOk h
instance (h:Hd) (a:Int):Decidable (QX h a):=inferInstanceAs (Decidable<|_/\_/\_/\_/\_/\_/\_)
def HY n b:lU (n,b,())=aa (decide<|W3 n b,()):=by
 unfold lU;by_cases h:0<=n
 {rw[bL h,aj];unfold ba W3;simp[h]};rw[cN ai,ag,cj λe=>h e.1]
def U1 s m:oL (s,m,())=aa (decide<|clr s m,()):=by
 unfold oL;by_cases h:s=[]
 {subst h;rw[show bA [] []=true from rfl,aM,ag,ag,ab,cj λe=>e.1 rfl]};rw[show bA s []=false from cj h,aE,aj];by_cases a:s.length<=m;{rw[bL<|by exact a,aj,JK,ab,ab];unfold ba;rw[Lm];unfold clr;simp[h,a]};rw[cN<|by simp only[len];omega,ag,ab,cj λe=>a e.2.1]
def ZS(h:Hd) m:ss (h,m,())=aa (decide<|QX h m,()):=by
 unfold ss;by_cases d:W3 h.2.2.1 2097152;case neg=>rw[HY,ab,cj d,ag,ab,ag,ab,ag,ab,ag,ab,aE,aM,ag,ab,aj,cj λe=>d e.1]
 rw[HY,ab,cT d,aj,HY,ab,ab];by_cases f:W3 h.2.2.2.1 2097152;case neg=>rw[cj f,ag,ab,ag,ab,ag,ab,aE,aM,ag,ab,aj,cj λe=>f e.2.1]
 rw[cT f,aj,HY,ab,ab];by_cases g:W3 h.2.2.2.2.1 2097152;case neg=>rw[cj g,ag,ab,ag,ab,aE,aM,ag,ab,aj,cj λe=>g e.2.2.1]
 rw[cT g,aj,HY,ab,ab];by_cases i:W3 h.2.2.2.2.2.1 8589934592;case neg=>rw[cj i,ag,ab,aE,aM,ag,ab,aj,cj λe=>i e.2.2.2.1]
 rw[cT i,aj,HY,ab,ab];by_cases j:W3 h.2.2.2.2.2.2.1 8589934592;case neg=>rw[cj j,aE,aM,ag,ab,aj,cj λe=>j e.2.2.2.2.1]
 rw[cT j,aM,aE,aj,U1,ab,ab];by_cases k:clr h.1 m;case neg=>rw[cj k,aE,aj,cj λe=>k e.2.2.2.2.2.1]
 rw[cT k,aM,ag,(fk.2 ⟨λe=>e.2.2.2.2.2.2,λe=>⟨d,f,g,i,j,k,e⟩⟩)];by_cases l:h.2.1=1
 {rw[l,mG,aj];unfold bA;rw[show decide _=decide (kindOk h) from fk.2 (by unfold kindOk;simp[l])]};rw[ax l,ag];by_cases b:h.2.1=2;{rw[b,mG,aj];unfold bA aR;by_cases a:h.2.2.2.2.2.2.2.1=[];{rw[cT a,aj,show decide (h.2.2.2.2.2.1=0)=decide (kindOk h) from fk.2 (by unfold kindOk;simp[b,a])]};rw[cj a,ag,show decide (kindOk h)=false from cj (by unfold kindOk;simp[b,a])]};rw[ax b,ag];by_cases c:h.2.1=3;{rw[c,mG,aj,U1,ab];unfold aR;by_cases a:clr h.2.2.2.2.2.2.2.1 100;{rw[cT a,aj,show decide _=decide (kindOk h) from fk.2 (by unfold kindOk;simp[c,a])]};rw[cj a,ag,show decide _=false from cj (by unfold kindOk;simp[c,a])]};rw[ax c,ag,show decide _=false from cj (by unfold kindOk;simp[l,b,c])]
def cD:bj->List bj|[]=>[[]]|b::r=>if b=47 then []::cD r else match cD r with|h::t=>(b::h)::t|[]=>[[b]]
def qa s:cD s≠[]:=by cases s with|nil=>simp[cD]|cons b r =>unfold cD;grind
def j9{b}(h:b≠47){r x t}(e:cD r=x::t):cD (b::r)=(b::x)::t:=by rw[cD,aK h,e]
def parts(p:bj):List bj:=if p=[] then [] else cD p
def ZT{b}(h:b≠47):∀k r x t,Lib.splitK [47] 0 k r=x::t->Lib.splitK [47] 0 k (b::r)=(b::x)::t:=by intro k r x t e;cases k with|zero=>simp[Lib.splitK] at e⊢;exact⟨by rw[e.1],e.2⟩|succ k =>(have a:Lib.index (b::r) [47]=if Lib.index r [47]==-1 then -1 else Lib.index r [47]+1:=by rw[Lib.index];grind);have d:=Lib.index_ge r [47];unfold Lib.splitK at e⊢;rw[a];by_cases c:(Lib.index r [47]==-1)=true;{grind};(rw[aK c] at e⊢;have f:Lib.index r [47]≠-1:=λq=>c (by rw[q];rfl);have g:¬((Lib.index r [47]+1==-1)=true):=λq=>by have:=beq_iff_eq.1 q;omega);obtain⟨j,i⟩:∃j:Nat,Lib.index r [47]=j:=⟨(Lib.index r [47]).toNat,ai⟩;simp_all
def W4 k r:Lib.splitK [47] 0 (k+1) (47::r)=[]::Lib.splitK [47] 0 k r:=by
 have a:Lib.index (47::r) [47]=0:=by rw[Lib.index];simp
 rw[Lib.splitK,a];simp
def af1:∀s k,s.count 47<=k->Lib.splitK [47] 0 k s=cD s:=by intro s;induction s with|nil =>(intro k _;cases k with|zero=>rfl|succ k=>simp[Lib.splitK,cD,Lib.index])|cons b r e =>intro k a;by_cases h:b=47;{subst h;obtain⟨c,rfl⟩:∃c,k=c+1:=⟨k-1,by rw[List.count_cons_self] at a;omega⟩;rw[W4,e c (by rw[List.count_cons_self] at a;omega),cD,aN rfl]};have:=e k (by rwa [List.count_cons_of_ne h] at a);cases d:cD r with|nil=>exact absurd d (qa r)|cons x t =>rw[d] at this;rw[ZT h k r x t this,j9 h d]
def aju s:Lib.split s [47]=cD s:=af1 s _ (by rw[Lib.count_one];apply b8)
def aeE c:aR (u8 c) 47=decide (c=47):=GU (n:=47)
def apy c:aR (u8 c) 0=decide (c=0):=GU (n:=0)
def sA p (a:p.length<=1048576):fo (p,())=aa (parts p,()):=by
 unfold fo parts;by_cases h:p=[]
 .rw[cc h,aj,aN h]
 rw[bg h,ag,aK h];have:wK (p,[47],())=aa (cD p,()):=by show(FP p [47]).map _=_;unfold FP;simp only;rw[aN ai,aju];rfl
 rw[this,ab]
def ix p (w:p.length<=1048576):eo (p,())=aa (parts p,()):=by
 unfold eo parts;by_cases h:p=[]
 .rw[cc h,aj,aN h]
 rw[bg h,ag,aK h];have key:=qK (f:=lq (p,())) p (λs i=>(((),s.1,i,()),s.2,()))
  (λi s x=>aa (.inl<|if x=47 then([],s.2++[s.1]) else(s.1++[x],s.2))) (λi s=>(((),s.1,i,()),s.2,())) (λi s=>s.1.length<=i/\s.2.length<=i) (λs i x l v q=>by unfold lq;dsimp only;rw[aq v,aj,au l,ab,aeE];by_cases b:x=47;{rw[cT b,aj,aP dW,aJ ai];simp only[aN b];rfl};rw[cj b,ag,aJ ai,jf ai ai,sub_one l,aP dW];simp only[aK b];rfl)
  (λs i x y l q c=>by obtain rfl:=Ym (aU c);by_cases b:x=47;{grind};simp only[aK b,gR,iG,qp];omega)
  (λs q=>by unfold lq;rw[aw];rfl)
  (λs i x _ _ h=>by cases h) ([],[]) ⟨b8 _,b8 _⟩
 have run:∀r i a o,∃e d j,wg (λi s x=>aa (.inl<|if x=47 then([],s.2++[s.1]) else(s.1++[x],s.2))) (λi s=>(((),s.1,(i:Int),()),s.2,())) r i (a,o)=aa (((),e,j,()),d,()) /\
   d++[e]=o++(match cD r with|h::t=>(a++h)::t|[]=>[a])/\d.length<=o.length+r.length:=by
  intro r;induction r with|nil=>intro i a o;exact⟨a,o,_,rfl,by simp[cD],aW⟩|cons x r u =>intro i a o;by_cases b:x=47;{obtain⟨e,d,j,m,g,n⟩:=u (i+1) [] (o++[a]);refine⟨e,d,j,?_,?_,?_⟩;{unfold wg;grind};{rw[g,cD,aN b];cases c:cD r with|nil=>exact absurd c (qa r)|cons h t=>simp};grind};obtain⟨e,d,j,m,g,n⟩:=u (i+1) (a++[x]) o;refine⟨e,d,j,?_,?_,?_⟩;{unfold wg;grind};{rw[g];cases c:cD r with|nil=>exact absurd c (qa r)|cons h t=>rw[j9 b c];simp};grind
 obtain⟨e,d,j,m,g,n⟩:=run p 0 [] [];have k:Loop (lq _) (((),([]),0,()),_)=aa _:=key.trans m;rw[k,ab];simp at n;rw[aP dW,aj,hJ,g];cases c:cD p with|nil=>exact absurd c (qa p)|cons h t=>simp
def aX:List bj->bj|[]=>[]|[x]=>x|x::y::r=>x++47::aX (y::r)
def ajv l:Lib.join l [47]=aX l:=by induction l with|nil=>rfl|cons x r a =>cases r with|nil=>simp[Lib.join_one,aX]|cons y r =>rw[aX,<-a,Lib.join_cons,Lib.join_cons];simp[Lib.joinTail]
def xX s:aX (cD s)=s:=by induction s with|nil=>rfl|cons b r a =>by_cases h:b=47;{subst h;rw[cD,aN rfl];cases c:cD r with|nil=>exact absurd c (qa r)|cons x t=>rw[aX,<-c,a];rfl};cases c:cD r with|nil=>exact absurd c (qa r)|cons x t =>rw[j9 h c];rw[c] at a;cases t with|nil=>rw[aX] at a⊢;rw[a]|cons y t=>rw[aX] at a⊢;rw[Na,a]
def dP p:aX (parts p)=p:=by
 unfold parts;by_cases h:p=[]
 {rw[ h];rfl};rw[aK h,xX]
def HZ x (hx:47∉x) r:cD (x++47::r)=x::cD r:=by induction x with|nil=>rw[Gn,cD,aN rfl]|cons b x a =>simp at hx;exact j9 (λe=>hx.1 e.symm) (a hx.2)
def qb x (hx:47∉x):cD x=[x]:=by induction x with|nil=>rfl|cons b x a =>simp at hx;exact j9 (λe=>hx.1 e.symm) (a hx.2)
def JM l (a:l≠[]) (h:∀x∈l,47∉x):cD (aX l)=l:=by induction l with|nil=>exact absurd rfl a|cons x r b =>cases r with|nil=>exact qb x (h x<|pg ..)|cons y r =>rw[aX,HZ x (h x<|pg ..),b aW λz c=>h z (wG _ c)]
def acN s:∀x∈cD s,47∉x/\x.length<=s.length:=by induction s with|nil=>intro x a;simp[cD] at a;subst a;simp|cons b r d =>intro x a;by_cases h:b=47;{rw[cD] at a;grind};cases c:cD r with|nil=>exact absurd c (qa r)|cons y t =>rw[j9 h c] at a;grind
def GV s:(cD s).length<=s.length+1:=by induction s with|nil=>simp[cD]|cons b r c =>by_cases h:b=47;{rw[cD,aN h];simp;omega};cases a:cD r with|nil=>exact absurd a (qa r)|cons y t=>rw[j9 h a];rw[a] at c;simp at c⊢;omega
def U2 p:∀x∈parts p,47∉x/\x.length<=p.length:=by
 unfold parts;by_cases h:p=[]
 {grind};rw[aK h];exact acN p
def fF p:(parts p).length<=p.length+1:=by
 unfold parts;by_cases h:p=[]
 {grind};rw[aK h];exact GV p
def ka l (h:∀x∈l,47∉x/\x≠[]):parts (aX l)=l:=by unfold parts;cases l with|nil=>rfl|cons x r =>(have a:aX (x::r)≠[]:=by have:=(h x<|pg ..).2;cases r with|nil=>exact this|cons y r=>rw[aX];simp);rw[aK a,JM _ aW λz b=>(h z b).1]
end Go.Ge
