import Derived.Test.YtcebnmppipejfaaGreatDoorPlB
set_option linter.unusedSectionVars false
set_option linter.unusedVariables false
set_option linter.unusedSimpArgs false
set_option linter.defProp false
noncomputable section
open Option renaming some->ab,none->ah
open Go.IntKind (i64)
namespace Go.Ge
variable [Lp]
def cB:aw->List aw
 | []=>[[]]
 | b::r=>if b=47 then []::cB r else match cB r with
   | h::t=>(b::h)::t
   | []=>[[b]]
def pg(s:aw):cB s≠[]:=by
 cases s with
 | nil=>simp[cB]
 | cons b r =>
   unfold cB
   grind
def j9{b:UInt8}(h:b≠47){r x:aw}{t:List aw}(e:cB r=x::t):cB (b::r)=(b::x)::t:=by
 rw[cB,aQ h,e]
def parts(p:aw):List aw:=if p=[] then [] else cB p
def VQ{b:UInt8}(h:b≠47):∀(k:Nat) (r x:aw) (t:List aw),Lib.splitK [47] 0 k r=x::t->Lib.splitK [47] 0 k (b::r)=(b::x)::t:=by
 intro k r x t e;cases k with
 | zero=>simp[Lib.splitK] at e⊢;exact⟨by rw[e.1],e.2⟩
 | succ k =>
   have a:Lib.index (b::r) [47]=if Lib.index r [47]==-1 then -1 else Lib.index r [47]+1:=by
    rw[Lib.index]
    grind
   have d:=Lib.index_ge r [47];unfold Lib.splitK at e⊢;rw[a];by_cases c:(Lib.index r [47]==-1)=true
   .grind
   .rw[aQ c] at e⊢;have f:Lib.index r [47]≠-1:=λq=>c (by rw[q];rfl);have g:¬((Lib.index r [47]+1==-1)=true):=λq=>by have:=Un.1 q;omega
    obtain⟨j,i⟩:∃j:Nat,Lib.index r [47]=j:=⟨(Lib.index r [47]).toNat,ai⟩;simp_all
def SW(k:Nat)(r:aw):Lib.splitK [47] 0 (k+1) (47::r)=[]::Lib.splitK [47] 0 k r:=by
 have a:Lib.index (47::r) [47]=0:=by rw[Lib.index];simp[List.isPrefixOf]
 rw[Lib.splitK,a];simp
def abZ:∀(s:aw) (k:Nat),s.count 47<=k->Lib.splitK [47] 0 k s=cB s:=by
 intro s;induction s with
 | nil =>
   intro k _;cases k with
   | zero=>rfl
   | succ k=>simp[Lib.splitK,cB,Lib.index]
 | cons b r e =>
   intro k a;by_cases h:b=47
   .subst h;obtain⟨c,rfl⟩:∃c,k=c+1:=⟨k-1,by rw[List.count_cons_self] at a;omega⟩;rw[SW,e c (by rw[List.count_cons_self] at a;omega),cB,aW rfl]
   .have:=e k (by rwa [List.count_cons_of_ne h] at a);cases d:cB r with
    | nil=>exact absurd d (pg r)
    | cons x t =>
      rw[d] at this;rw[VQ h k r x t this,j9 h d]
def afm(s:aw):Lib.split s [47]=cB s:=by
 exact abZ s _ (by rw[Lib.count_one];exact cq _)
def aao(c:UInt8):aS (u8 c) 47=decide (c=47):=D6 (n:=47)
def ak5(c:UInt8):aS (u8 c) 0=decide (c=0):=D6 (n:=0)
def rn(p:aw)(a:p.length<=1048576):fG (p,())=ab (parts p,()):=by
 unfold fG parts;by_cases h:p=[]
 .rw[cN h,ae,aW h]
 .rw[bw h,af,aQ h];have:vn (p,[47],())=ab (cB p,()):=by
   show(Df p [47]).map (λy=>(y,()))=_
   unfold Df;simp only;rw[aW ai,afm];rfl
  rw[this,aa]
def iC(p:aw)(w:p.length<=1048576):eE (p,())=ab (parts p,()):=by
 unfold eE parts;by_cases h:p=[]
 .rw[cN h,ae,aW h]
 .rw[bw h,af,aQ h];have key:=pZ (f:=lv (p,())) p (λ(s:aw×List aw) i=>(((),s.1,(i:Int),()),s.2,()))
   (λi s x=>ab (.inl<|if x=47 then([],s.2++[s.1]) else(s.1++[x],s.2))) (λi s=>(((),s.1,(i:Int),()),s.2,())) (λi s=>s.1.length<=i/\s.2.length<=i)
   (λs i x l v q=>by
    unfold lv;dsimp only;rw[aq v,ae,au l,aa,aao];by_cases b:x=47
    .rw[dE b,ae,bo (by simp only[eU,gj];omega),ae,aa,aL ai];simp only[aW b];rfl
    .rw[cL b,af,aL ai,mf ai ai,ae,sub_one l,bo (by simp only[eU,gj];omega),ae,aa];simp only[aQ b];rfl)
   (λs i x y l q d=>by
    obtain rfl:=Ul (aR d);by_cases b:x=47
    .grind
    .simp only[aQ b,hY,eU,gj];omega)
   (λs q=>by
    unfold lv;rw[ay,af];rfl)
   (λs i x _ _ h=>by cases h) ([],[]) ⟨cq _,cq _⟩
  have run:∀(r:aw) (i:Nat) (a:aw) (o:List aw),∃e c j,uV (λi (s:aw×List aw) x=>ab (.inl<|if x=47 then([],s.2++[s.1]) else(s.1++[x],s.2))) (λi (s:aw×List aw)=>(((),s.1,(i:Int),()),s.2,())) r i (a,o)=ab (((),e,j,()),c,()) /\
    c++[e]=o++(match cB r with|h::t=>(a++h)::t|[]=>[a])/\c.length<=o.length+r.length:=by
   intro r;induction r with
   | nil=>intro i a o;exact⟨a,o,_,rfl,by simp[cB],aY⟩
   | cons x r u =>
     intro i a o;by_cases b:x=47
     .obtain⟨e,c,j,m,g,n⟩:=u (i+1) [] (o++[a]);refine⟨e,c,j,?_,?_,?_⟩
      .unfold uV
       grind
      .rw[g,cB,aW b];cases d:cB r with
       | nil=>exact absurd d (pg r)
       | cons h t=>simp
      .grind
     .obtain⟨e,c,j,m,g,n⟩:=u (i+1) (a++[x]) o;refine⟨e,c,j,?_,?_,?_⟩
      .unfold uV
       grind
      .rw[g];cases d:cB r with
       | nil=>exact absurd d (pg r)
       | cons h t=>rw[j9 b d];simp
      .grind
  obtain⟨e,c,j,m,g,n⟩:=run p 0 [] [];have k:Loop (lv (p,())) (((),([]:aw),(0:Int),()),([]:List aw),())=ab (((),e,j,()),c,()):=key.trans m;rw[k,aa];simp only[gj] at n;rw[bo<|by simp only[eU,gj];omega,ae,vm,g];cases d:cB p with
  | nil=>exact absurd d (pg p)
  | cons h t=>simp
def aN:List aw->aw
 | []=>[]
 | [x]=>x
 | x::y::r=>x++47::aN (y::r)
def afn(l:List aw):Lib.join l [47]=aN l:=by
 induction l with
 | nil=>rfl
 | cons x r a =>
   cases r with
   | nil=>simp[Lib.join_one,aN]
   | cons y r =>
     rw[aN,<-a,Lib.join_cons,Lib.join_cons];simp[Lib.joinTail]
def v7(s:aw):aN (cB s)=s:=by
 induction s with
 | nil=>rfl
 | cons b r a =>
   by_cases h:b=47
   .subst h;rw[cB,aW rfl];cases c:cB r with
    | nil=>exact absurd c (pg r)
    | cons x t=>rw[aN,<-c,a];rfl
   .cases c:cB r with
    | nil=>exact absurd c (pg r)
    | cons x t =>
      rw[j9 h c];rw[c] at a;cases t with
      | nil=>rw[aN] at a⊢;rw[a]
      | cons y t=>rw[aN] at a⊢;rw[JW,a]
def ga(p:aw):aN (parts p)=p:=by
 unfold parts;by_cases h:p=[]
 .rw[aW h,h];rfl
 .rw[aQ h,v7]
def E3(x:aw)(a:47∉x)(r:aw):cB (x++47::r)=x::cB r:=by
 induction x with
 | nil=>rw[BG,cB,aW rfl]
 | cons b x c =>
   simp only[ld,not_or] at a;exact j9 (λe=>a.1 e.symm) (c a.2)
def ph(x:aw)(a:47∉x):cB x=[x]:=by
 induction x with
 | nil=>rfl
 | cons b x c =>
   simp only[ld,not_or] at a;exact j9 (λe=>a.1 e.symm) (c a.2)
def GA(l:List aw)(a:l≠[])(h:∀x∈l,47∉x):cB (aN l)=l:=by
 induction l with
 | nil=>exact absurd rfl a
 | cons x r b =>
   cases r with
   | nil=>rw[aN];exact ph x (h x<|pL ..)
   | cons y r =>
     rw[aN,E3 x (h x<|pL ..),b aY λz c=>h z (vi _ c)]
def YA(s:aw):∀x∈cB s,47∉x/\x.length<=s.length:=by
 induction s with
 | nil=>intro x a;simp[cB] at a;subst a;simp
 | cons b r d =>
   intro x a;by_cases h:b=47
   .rw[cB,aW h] at a
    grind
   .cases c:cB r with
    | nil=>exact absurd c (pg r)
    | cons y t =>
      rw[j9 h c] at a
      grind
def D9(s:aw):(cB s).length<=s.length+1:=by
 induction s with
 | nil=>simp[cB]
 | cons b r c =>
   by_cases h:b=47
   .rw[cB,aW h];simp only[eU];omega
   .cases a:cB r with
    | nil=>exact absurd a (pg r)
    | cons y t=>rw[j9 h a];rw[a] at c;simp only[eU] at c⊢;omega
def QV(p:aw):∀x∈parts p,47∉x/\x.length<=p.length:=by
 unfold parts;by_cases h:p=[]
 .grind
 .rw[aQ h];exact YA p
def fQ(p:aw):(parts p).length<=p.length+1:=by
 unfold parts;by_cases h:p=[]
 .grind
 .rw[aQ h];exact D9 p
def ka(l:List aw)(h:∀x∈l,47∉x/\x≠[]):parts (aN l)=l:=by
 unfold parts;cases l with
 | nil=>rfl
 | cons x r =>
   have a:aN (x::r)≠[]:=by
    have:=(h x<|pL ..).2;cases r with
    | nil=>rw[aN];exact this
    | cons y r=>rw[aN];simp
   rw[aQ a,GA _ aY λz b=>(h z b).1]
def Cn(l:List aw)(s:l.length<=1048576)(k:(aN l).length<=1048576):oY (l,())=ab (aN l,()):=by
 unfold oY;have pre:∀(a b:List _),a≠[]->b≠[]->aN (a++b)=aN a++47::aN b:=by
  intro a;induction a with
  | nil=>intro b h;exact absurd rfl h
  | cons x r p =>
    intro b _ c;cases r with
    | nil =>
      cases b with
      | nil=>exact absurd rfl c
      | cons y b=>rfl
    | cons y r =>
      have:=p b aY c;rw[JW,JW,aN,aN,<-JW,this];simp
 have mono:∀i,(aN<|l.take i).length<=(aN l).length:=by
  intro i;by_cases m:l.take i=[]
  .rw[m];simp[aN]
  .by_cases c:l.drop i=[]
   .rw[show l.take i=l from by have:=BR i l;rw[c,zi] at this;exact this];exact cq _
   .have:=pre _ _ m c;simp_all
 have step:∀i x,l[i]?=ab x->aN (l.take<|i+1)=(if 0<i then aN (l.take i)++[47] else aN (l.take i))++x:=by
  intro i x k;have e:l.take (i+1)=l.take i++[x]:=by rw[ED,k];rfl
  rw[e];cases i with
  | zero=>rfl
  | succ i =>
    rw[aW ai,pre _ _ (by have:=aG k;intro q;have:=congrArg List.length q;rw[km] at this;simp only[gj] at this;omega) aY];simp[aN]
 have key:=dh (f:=qv (l,())) l.length (λi=>((aN<|l.take i,(i:Int),()),())) (λi n=>by
  obtain⟨x,d⟩:∃x,l[i]?=ab x:=⟨_,ia n⟩;have g:=step i x d;have c:=mono (i+1);rw[g] at c;unfold qv;dsimp only;rw[aq n,ae];by_cases o:0<i
  .rw[aW o] at g c;rw[hY,hY] at c;rw[aP ai,ae,bo (by simp only[eU,gj];omega),ae,aa,au d,aa];rw[bo<|by simp only[vm,hY,eU,gj];omega,ae,aL ai,g];rfl
  .rw[aQ o] at g c;rw[hY] at c;rw[aI ai,af,aa,au d,aa];dsimp only;rw[bo ai,ae,aL ai,g];rfl) (by
  unfold qv;rw[ay,af,DG];rfl)
 have j:Loop _ ((([]:aw),(0:Int),()),())=ab _:=key;rw[j,aa]
def sQ(s:aw):Bool:=decide (s≠[46]/\s≠[46,46]/\1<=s.length/\s.length<=32/\0∉s)
def Ea(s:aw):decide (Lib.indexByte s 0<0)=decide (0∉s):=by
 rw[HZ];by_cases h:zE s
 .rw[dE h,dE];intro a;exact h 0 a rfl
 .rw[cL h,cL];intro a;exact h λx b e=>a (e▸b)
def YB(s:aw):r5 (s,())=ab (sQ s,()):=by
 unfold r5;have one:∀i:Nat,i<2->nG (s,()) ((false,(i:Int),()),())=if bG s (if i=0 then [46] else [46,46])=true then ab (.inr (1,(false,(i:Int),()),())) else ab (.inl ((false,((i+1:Nat):Int),()),())):=by
  intro i h;unfold nG;dsimp only;rw[aP ai,ae,vW];rcases(by omega:i=0\/i=1) with rfl|rfl
  .rw[show([[46],[46,46]]:List aw)[0]?=ab [46] from rfl,aa,eA];rfl
  .rw[show([[46],[46,46]]:List aw)[1]?=ab [46,46] from rfl,aa,eA];rfl
 by_cases c:s=[46]
 .rw[aT,show((false,(0:Int),()),())=((false,((0:Nat):Int),()),()) from rfl,one 0 ai,aW (by rw[aW rfl];exact cN c)];subst c;rfl
 .rw[aT,show((false,(0:Int),()),())=((false,((0:Nat):Int),()),()) from rfl,one 0 ai,aQ (by rw[aW rfl,bw c];simp)];by_cases d:s=[46,46]
  .simp only[Option.bind];rw[aT,one 1 ai,aW (by rw[aQ ai];exact cN d)];subst d;rfl
  .simp only[Option.bind];rw[aT,one 1 ai,aQ (by rw[aQ ai,bw d];simp)];simp only[Option.bind];rw[aT];have e:nG (s,()) ((false,((1+1:Nat):Int),()),())=ab _:=rfl;rw[e];simp only[Option.bind];rw[aa];rw[bW,ae];have el:cj 1 (len s)=decide (1<=s.length):=by unfold cj len;apply hH.2;omega
   have f:cj _ 32=decide _:=Ap 32 s;rw[el,f];have g:dx (s,0,())=ab (Lib.indexByte s 0,()):=rfl;rw[g,aa];rw[show aZ _ 0=decide _ from Ea s];unfold sQ;by_cases a:1<=s.length
   .by_cases b:s.length<=32
    .simp[a,b,ao,ag,c,d]
    .simp[a,b,ao,ag]
   .simp[a,ao,ag]
def Ps(s:aw)(t:s.length<=1048576):r9 (s,())=ab (sQ s&&decide (47∉s),()):=by
 unfold r9;have key:=pZ (f:=nH (s,())) s (λ_ i=>((false,(i:Int),()),()))
  (λi _ x=>ab (if x=0\/x=47 then .inr _ else .inl ())) (λi _=>(0,(false,(i:Int),()),())) (λ_ _=>True)
  (λu i x m n _=>by
   unfold nH;rw[aq n,ae,au m,aa,ak5];by_cases j:x=0
   .rw[dE j,aF,af,aa,ae,aW (.inl j)];rfl
   .rw[cL j,az,ae,aa,aao,aa];by_cases b:x=47
    .rw[dE b,ae,aW (.inr b)];rfl
    .rw[cL b,af,aQ (by simp[j,b]),aL ai];rfl)
  (λ_ _ _ _ _ _ _=>trivial)
  (λu _=>by
   unfold nH;rw[ay,af])
  (λ_ _ _ _ _ h=>by cases h) () trivial
 have run:∀(r:aw) (i:Nat),∃q,uV (λi _ x=>ab (if x=0\/x=47 then Sum.inr (1,(false,(i:Int),()),()) else Sum.inl ())) (λi _=>((0:Nat),(false,(i:Int),()),())) r i ()=ab q /\
   q.1=(if 0∉r/\47∉r then 0 else 1)/\q.2.1.1=false:=by
  intro r;induction r with
  | nil=>intro i;exact⟨_,rfl,aY,rfl⟩
  | cons x r o =>
    intro i;unfold uV;by_cases h:x=0\/x=47
    .simp only[aW h]
     grind
    .simp only[aQ h];obtain⟨q,b,k,l⟩:=o (i+1)
     grind
 obtain⟨q,b,k,l⟩:=run s 0;have g:Loop _ ((false,(0:Int),()),())=ab q:=key.trans b;rw[g,aa];have el:cj 1 (len s)=decide (1<=s.length):=by unfold cj len;apply hH.2;omega
 have p:cj _ 32=decide _:=Ap 32 s;rw[el,p,k,l];unfold sQ;by_cases a:0∉s/\47∉s
 .rw[aW a,bW,ae];by_cases c:1<=s.length
  .by_cases d:s.length<=32
   .by_cases e:s=[46]
    .simp[e,ao,bG,nt]
    .by_cases f:s=[46,46]
     .simp[f,ao,bG,nt]
     .simp[a,c,d,e,f,ao,bG,nt]
   .simp[d,c,ao]
  .simp[c,ao]
 .rw[aQ a,eZ,af]
  grind
def QW(p:aw)(j:p.length<=1048576):xd (p,())=ab ((parts p).all sQ&&decide ((parts p).length<=8)&&decide (p.length<=96),()):=by
 unfold xd;rw[iC p j,aa];have e:=QV p;have k:=fQ p;generalize parts p=l at e k;have key:=pZ (f:=ub (l,())) l (λ_ i=>((false,(i:Int),()),()))
  (λi _ x=>ab (if sQ x=false then .inr _ else .inl ())) (λi _=>(0,(false,(i:Int),()),())) (λ_ _=>True)
  (λu i x g m _=>by
   unfold ub;have c:=e x (eT g);rw[aq m,ae,au g,aa,Ps x ai,aa];rw[dE c.1,adV];cases h:sQ x with
   | true=>rw[aF,af,aQ aY,aL ai];rfl
   | false=>rw[az,ae,aW rfl];rfl)
  (λ_ _ _ _ _ _ _=>trivial)
  (λu _=>by
   unfold ub;rw[ay,af])
  (λ_ _ _ _ _ h=>by cases h) () trivial
 have run:∀(r:List _) (i:Nat),∃q,uV (λi _ x=>ab (if sQ x=false then Sum.inr (1,(false,(i:Int),()),()) else Sum.inl ())) (λi _=>((0:Nat),(false,(i:Int),()),())) r i ()=ab q /\
   q.1=(if r.all sQ=true then 0 else 1)/\q.2.1.1=false:=by
  intro r;induction r with
  | nil=>intro i;exact⟨_,rfl,rfl,rfl⟩
  | cons x r v =>
    intro i;unfold uV;cases h:sQ x with
    | false=>exact⟨_,rfl,by simp[h],rfl⟩
    | true =>
      simp_all
 obtain⟨q,n,o,s⟩:=run l 0;have b:Loop _ ((false,(0:Int),()),())=ab q:=key.trans n;rw[b,aa,o,s];have t:cj _ 8=decide _:=Ap 8 l;have d:cj _ 96=decide _:=Ap 96 p;rw[t,d];cases h:l.all sQ with
 | true =>
   rw[aW rfl,bW,ae];by_cases a:l.length<=8<;>simp[a,ao]
 | false=>rw[aQ aY,eZ,af];simp
def nK(x:aw):Bool:=decide (x≠[]/\x≠[46])
def names(s:aw):List aw:=(parts s).filter nK
def nL(s:aw):Bool:=(names s).all sQ&&decide (s.head?≠ab 47)&&decide ((names s).length<=8)&&decide ((aN<|names s).length<=96)
def lB(s:aw):aw×Int:=if nL s then(aN<|names s,0) else([],2)
def wN(s:aw):∀x∈names s,47∉x/\x≠[]/\x.length<=s.length:=by
 intro x a;obtain⟨b,c⟩:=zj.1 a;obtain⟨d,e⟩:=QV s x b;simp only[nK,pR] at c
 grind
def GB(s:aw):(names s).length<=s.length+1:=jb (Ua _ _) (fQ s)
def Jt(s:aw):parts (aN<|names s)=names s:=ka _ λx a=>⟨(wN s x a).1,(wN s x a).2.1⟩
def xo(s:aw):(aN<|names s).length<=s.length:=by
 have gen:∀(l:List _),(aN<|l.filter nK).length<=(aN l).length:=by
  intro l;induction l with
  | nil=>simp[aN]
  | cons x r a =>
    by_cases b:nK x=true
    .rw[aiI b];cases c:r.filter nK with
     | nil =>
       cases r with
       | nil=>exact cq _
       | cons y r=>simp only[aN,hY,eU];omega
     | cons y q =>
       rw[c] at a;cases r with
       | nil=>simp at c
       | cons z r=>simp only[aN,hY,eU] at a⊢;omega
    .rw[List.filter_cons_of_neg b];cases r with
     | nil=>simp[aN]
     | cons z r=>rw[aN];simp only[hY,eU];omega
 have:=gen (parts s);rw[ga] at this;exact this
def VR(s:aw):cE (s,[47],())=ab (decide<|s.head?=ab 47,()):=by
 unfold cE cw;cases s with
 | nil=>rfl
 | cons b r =>
   have e:cj (len [(47:UInt8)]) (len (b::r))=true:=bO (by simp only[len,eU,gj];omega);have a:inside 0 (len [(47:UInt8)]) (len (b::r))=true:=aU aK aK (by simp only[len,eU,gj];omega);rw[e,ae,a,ae,Dg,aa,aa];simp[bG]
def QX(s:aw)(A:s.length<=4096):p6 (s,())=ab ((lB s).1,(lB s).2,()):=by
 unfold p6;rw[rn s ai,aa];have B:=fQ s;have key:=pZ (f:=oX (parts s,())) (parts s) (λ(o:List _) i=>((([]:aw),(0:Int),(),(i:Int),()),o,()))
  (λi o x=>ab (if nK x=false then .inl o else if sQ x=false then .inr _ else .inl (o++[x]))) (λi o=>(0,(([]:aw),(0:Int),(),(i:Int),()),o,())) (λi o=>o.length<=i)
  (λo i x l t u=>by
   unfold oX;rw[aq t,ae,au l,aa];have e:nK x=(nt (bG x [])&&nt (bG x [46])):=by simp[nK,bG,nt]
   by_cases a:x=[]
   .rw[cN a,aF,af,ae,aa];rw[bW,ae,aL ai,aW (by rw[e,cN a];rfl)];rfl
   .by_cases b:x=[46]
    .rw[bw a,az,ae,cN b,ae,aa];rw[bW,ae,aL ai,aW (by rw[e,cN b];simp[nt])];rfl
    .rw[bw a,az,ae,bw b,af,YB,aa];have g:nK x=true:=by rw[e,bw a,bw b];rfl
     cases h:sQ x with
     | false =>
       rw[az,ae,aa];rw[eZ,af,aQ (by rw[g];simp),aW rfl];rfl
     | true =>
       rw[aF,af,bo (by simp only[eU,gj];omega),ae,aa];rw[bW,ae,aL ai,aQ (by rw[g];simp),aQ aY];rfl)
  (λo i x C l u j=>by
   have j:=aR j;by_cases a:nK x=false
   .grind
   .rw[aQ a] at j;by_cases b:sQ x=false
    .grind
    .rw[aQ b] at j;obtain rfl:=Ul j;simp only[hY,eU,gj];omega)
  (λo _=>by
   unfold oX;rw[ay,af])
  (λ_ _ _ _ _ h=>by cases h) [] (cq _)
 have run:∀(r:List _) (i:Nat) (o:List _),∃q,uV (λi (o:List _) x=>ab (if nK x=false then Sum.inl o else if sQ x=false then Sum.inr (1,(([]:aw),(2:Int),(),(i:Int),()),o,()) else Sum.inl (o++[x]))) (λi o=>((0:Nat),(([]:aw),(0:Int),(),(i:Int),()),o,())) r i o=ab q /\
   (if(r.filter nK).all sQ=true then q.1=0/\q.2.2.1=o++r.filter nK else q.1=1/\q.2.1.1=[]/\q.2.1.2.1=2):=by
  intro r;induction r with
  | nil=>intro i o;exact⟨_,rfl,aY⟩
  | cons x r v =>
    intro i o;unfold uV;cases e:nK x with
    | false =>
      simp_all
    | true =>
      rw[aiI e];cases l:sQ x with
      | false=>exact⟨_,rfl,by simp[l]⟩
      | true =>
        obtain⟨q,n,d⟩:=v (i+1) (o++[x])
        grind
 obtain⟨q,n,d⟩:=run _ 0 [];have k:Loop _ ((([]:aw),(0:Int),(),(0:Int),()),_)=ab q:=key.trans n;rw[k,aa];rw[show(parts s).filter nK=names s from rfl,BG] at d;have D:=xo s;have w:=GB s;unfold lB nL;cases p:(names s).all sQ with
 | false =>
   rw[p,aQ aY] at d;rw[d.1,eZ,af,d.2.1,d.2.2];rfl
 | true =>
   rw[p,aW rfl] at d;rw[d.1,bW,ae,d.2];have y:lj (names s,[47],())=ab (aN<|names s,()):=by
    show(EW (names s) [47]).map _=_
    unfold EW;rw[afn,aW ⟨ai,ai⟩];rfl
   rw[y,aa,VR,aa];have z:aZ 8 (len<|names s)=!decide ((names s).length<=8):=by
    by_cases h:(names s).length<=8
    .rw[aI<|by simp only[len];omega];simp[h]
    .rw[aP<|by simp only[len];omega];simp[h]
   have m:aZ 96 (len<|aN<|names s)=!decide ((aN<|names s).length<=96):=by
    by_cases h:(aN<|names s).length<=96
    .rw[aI<|by simp only[len];omega];simp[h]
    .rw[aP<|by simp only[len];omega];simp[h]
   rw[z,m];by_cases a:s.head?=ab 47
   .simp[a,ao,nt]
   .by_cases b:(names s).length<=8
    .by_cases c:(aN<|names s).length<=96<;>simp[a,b,c,ao,nt]
    .simp[a,b,ao,nt]
def SX(s:aw)(u:s.length<=4096):uc (s,())=ab ((lB s).1,(lB s).2,()):=by
 unfold uc;rw[iC s ai,aa];have v:=fQ s;have key:=pZ (f:=lz (parts s,())) (parts s) (λ(o:List _) i=>(((),(i:Int),()),o,()))
  (λi o x=>ab (.inl<|if nK x=true then o++[x] else o)) (λi o=>(((),(i:Int),()),o,())) (λi o=>o.length<=i)
  (λo i x g k l=>by
   unfold lz;rw[aq k,ae,au g,aa,aa];have d:nK x=(nt (bG x [])&&nt (bG x [46])):=by simp[nK,bG,nt]
   by_cases a:x=[]
   .rw[cN a,aF,af,aa,af,aa,aL ai,aQ (by rw[d,cN a];simp[nt])];rfl
   .by_cases b:x=[46]
    .rw[bw a,az,ae,cN b,aF,aa,af,aa,aL ai,aQ (by rw[d,cN b];simp[nt])];rfl
    .rw[bw a,az,ae,bw b,az,aa,ae,aa,bo (by simp only[eU,gj];omega),ae,aa,aL ai,aW (by rw[d,bw a,bw b];rfl)];rfl)
  (λo i x w g l m=>by
   obtain rfl:=Ul (aR m);by_cases a:nK x=true
   .grind
   .rw[aQ a];omega)
  (λo _=>by
   unfold lz;rw[ay,af];rfl)
  (λ_ _ _ _ _ h=>by cases h) [] (cq _)
 have run:∀(r:List _) (i:Nat) (o:List _),∃j,uV (λi (o:List _) x=>ab (Sum.inl<|if nK x=true then o++[x] else o)) (λi o=>(((),(i:Int),()),o,())) r i o=ab (((),j,()),o++r.filter nK,()):=by
  intro r;induction r with
  | nil=>intro i o;exact⟨(i:Int),by simp[uV]⟩
  | cons x r n =>
    intro i o;unfold uV;by_cases d:nK x=true
    .simp only[aW d];obtain⟨j,h⟩:=n (i+1) (o++[x])
     grind
    .simp_all
 obtain⟨j,p⟩:=run _ 0 [];have e:Loop (lz (parts s,())) (((),(0:Int),()),([]:List _),())=ab (((),j,()),names s,()):=by
  have:=key.trans p;exact this
 have y:=xo s;have q:=GB s;rw[e,aa];dsimp only;rw[Cn _ ai ai,aa];have e0:ag (ao (nt<|bG s []) (ag (idx s 0) λt=>ab (aS (u8 t) 47))<|some false)=λ(f:Bool->Option (aw×Int×al))=>f (decide<|s.head?=ab 47):=by
  funext f;cases s with
  | nil=>rfl
  | cons b r =>
    rw[bw aY,az,ae,show idx _ 0=ab b from rfl,aa,aao,aa];simp_all
 rw[e0];dsimp only;rw[QW _ ai,aa,Jt];unfold lB nL;by_cases a:s.head?=ab 47
 .simp[a,ao,nt,ag]
 .cases z:(names s).all sQ with
  | false=>simp[a,ao,nt,ag]
  | true =>
    by_cases b:(names s).length<=8
    .by_cases c:(aN<|names s).length<=96<;>simp[a,b,c,ao,nt,ag]
    .simp[a,b,ao,nt,ag]
def Bo(p:aw):Nat->Option Nat
 | 0=>ah
 | n+1=>if p[n]?=ab 47 then ab n else Bo p n
def SY(p:aw)(f:p.length<=1048576):di (p,47,())=ab (match Bo p p.length with|some k=>(k:Int)|none=>-1,()):=by
 unfold di;have run:∀n,n<=p.length->∃q,Loop (cS (p,47,())) ((0,((n:Int)-1),()),())=ab q/\(match Bo p n with|some k=>q.1=1/\q.2.1.1=(k:Int)|none=>q.1=0):=by
  intro n;induction n with
  | zero =>
    intro _;refine⟨(0,(0,-1,()),()),?_,rfl⟩;rw[aT];rfl
  | succ n g =>
    intro h;obtain⟨y,b⟩:∃y,p[n]?=ab y:=⟨_,ia ai⟩;have e:((n+1:Nat):Int)-1=(n:Int):=ai;rw[e,aT];have st:cS (p,47,()) ((0,(n:Int),()),())=if y=47 then ab (.inr (1,((n:Int),(n:Int),()),())) else ab (.inl ((0,(n:Int)-1,()),())):=by
     unfold cS;dsimp only;rw[bO ai,ae,au b,aa,aao,dL ai ai,MW]
    rw[st,Bo,b]
    grind
 obtain⟨q,d,a⟩:=run p.length (cq _);have e:db .i64 (len p) 1=(p.length:Int)-1:=by rw[bE,dL ai ai]
 rw[e,d,aa];cases c:Bo p p.length with
 | none=>rw[c] at a;rw[a,bW,ae]
 | some k=>rw[c] at a;rw[a.1,a.2,eZ,af]
def M8:∀{p:aw} {n k:Nat},Bo p n=ab k->k<n/\p[k]?=ab 47/\∀j,k<j->j<n->p[j]?≠ab 47:=by
 intro p n;induction n with
 | zero=>intro k h;cases h
 | succ n a =>
   intro k h;rw[Bo] at h
   grind
def YC:∀{p:aw} {n:Nat},Bo p n=ah->∀j,j<n->p[j]?≠ab 47:=by
 intro p n;induction n with
 | zero=>intro _ j h;omega
 | succ n a =>
   intro h j b;rw[Bo] at h
   grind
def bp(p:aw):aw×aw:=match Bo p p.length with|some k=>(p.take k,p.drop (k+1))|none=>([],p)
def rp(p:aw):(47∉p/\bp p=([],p))\/∃a b,p=a++47::b/\47∉b/\bp p=(a,b):=by
 unfold bp;cases h:Bo p p.length with
 | none =>
   refine .inl ⟨λd=>?_,rfl⟩;obtain⟨j,c,e⟩:=adD d;exact YC h j c (by rw[ia c,e])
 | some k =>
   obtain⟨l,f,g⟩:=M8 h;refine .inr ⟨p.take k,p.drop _,?_,λd=>?_,rfl⟩
   .obtain⟨i,e⟩:=ib.1 f;rw[<-e,<-zg i,BR]
   .obtain⟨j,c,e⟩:=adD d;rw[nV] at c;rw[List.getElem_drop] at e;exact g (k+1+j) ai ai (by rw[ia ai,e])
def qT(p:aw)(a:p.length<=1048576):gy (p,())=ab ((bp p).1,(bp p).2,()):=by
 unfold gy pM;rw[show aS _ 0=false from rfl,af,show aS _ 1=true from rfl,ae,show idx [(47:UInt8)] 0=ab 47 from rfl,aa];rw[show u8 47=47 from rfl,SY p a,aa,aa];unfold bp;cases h:Bo p p.length with
 | none=>rw[aP aK,ae]
 | some k =>
   obtain⟨b,_,_⟩:=M8 h;dsimp only;rw[aI ai,af,show inside 0 _ _=true from aU ai ai (by rw[bE];omega),ae,aL ai,aU ai (by rw[bE];omega) (sN _),ae,ij,mG p _ ai]
def Co(a b:aw)(g:47∉b):cB (a++47::b)=cB a++[b]:=by
 induction a with
 | nil =>
   have e:cB (47::b)=[]::cB b:=by rw[cB,aW rfl]
   rw[BG,e,ph b g];rfl
 | cons c a d =>
   rw[JW];by_cases h:c=47
   .rw[cB,aW h,d]
    conv=>rhs;rw[cB,aW h]
    rfl
   .cases f:cB a with
    | nil=>exact absurd f (pg a)
    | cons x t =>
      rw[f] at d;rw[j9 h f,j9 h (by rw[d];rfl)];rfl
def v8(p:aw)(h:p.length<=4096):kx (p,())=ab ((bp p).1,(bp p).2,()):=by
 unfold kx;rw[iC p ai,aa];by_cases g:p=[]
 .subst g;rfl
 have c:parts p=cB p:=by unfold parts;rw[aQ g]
 rcases rp p with ⟨d,e⟩|⟨a,b,rfl,d,e⟩
 .rw[e,c,ph p d];have f:oY (sub [p] 0<|minus (db .i64 (len [p]) 1) 0,())=ab ([],()):=by
   exact Cn [] aY (by simp[aN])
  rw[show aS _ 0=false from rfl,af,show inside 0 _ _=true from rfl,ae,f,aa];rfl
 .rw[e,c,Co a b d];have i:=D9 a;rw[hY] at h;have f:db .i64 (len<|cB a++[b]) 1=(((cB a).length:Nat):Int):=by
   rw[bE,hY,dL (by simp only[eU,gj];omega) (by simp only[eU,gj];omega)]
   grind
  rw[f,ax (by rw[bE,hY];simp only[eU,gj];omega),af,aU ai ai (by rw[bE,hY];omega),ae,ij,Ui,
   Cn _ ai (by rw[v7];omega),v7,aa,vW]
  simp[ag]
def rq(d n:aw):aw:=if d=[]\/n=[] then d++n else d++47::n
def H2(d n:aw)(c:d.length<=1048576)(e:n.length<=1048576):oZ (d,n,())=ab (rq d n,()):=by
 unfold oZ rq;dsimp only;by_cases a:d=[]
 .rw[cN a,aF,af,ae,bo ai,ae,aW (.inl a)];rfl
 .rw[bw a,az,ae];by_cases b:n=[]
  .rw[cN b,ae,bo ai,ae,aW (.inr b)];rfl
  .rw[bw b,af,bo (by simp only[eU,gj];omega),ae,bo (by simp only[vm,hY,eU,gj];omega),ae,aQ (by simp[a,b])];simp[app]
def Ay(d n:aw)(c:d.length<=1048576)(e:n.length<=1048576):pa (d,n,())=ab (rq d n,()):=by
 unfold pa rq;by_cases a:d=[]
 .rw[cN a,ae,aW (.inl a),a];rfl
 .rw[bw a,af];by_cases b:n=[]
  .rw[cN b,ae,aW (.inr b),b,zi]
  .rw[bw b,af,bo (by simp only[eU,gj];omega),ae,bo (by simp only[vm,hY,eU,gj];omega),ae,aQ (by simp[a,b])];simp[app]
def dt(x y:List aw):Bool:=decide (y.length<x.length/\x.take y.length=y)
def QY{a:Type}[DecidableEq a](Q:Nat->Nat->Nat×(Bool×Int×al)×al)(b:∀i j,(Q i j).1=j/\(Q i j).2.1.1=false):∀(r:List (a×a)) (i:Nat),∃q,uV (λi (_:al) p=>ab (if p.1=p.2 then Sum.inl () else Sum.inr (Q i 1))) (λi _=>Q i 0) r i ()=ab q /\
  q.1=(if r.all (λp=>decide (p.1=p.2))=true then 0 else 1)/\q.2.1.1=false:=by
 intro r;induction r with
 | nil=>intro i;exact⟨_,rfl,(b _ _).1,(b _ _).2⟩
 | cons p r c =>
   intro i;unfold uV;by_cases h:p.1=p.2
   .simp only[aW h];obtain⟨q,d,e,f⟩:=c (i+1)
    grind
   .simp_all
def ab0(x y:List aw)(m:x.length<=1048576)(n:y.length<=1048576):fj (x,y,())=ab (decide<|x=y,()):=by
 unfold fj;rw[Vt];by_cases a:x.length=y.length
 .rw[dE a,aF,af];have key:=pZ (f:=ev (x,y,())) (x.zip y) (λ_ i=>((false,(i:Int),()),()))
   (λi _ p=>ab (if p.1=p.2 then .inl () else .inr _)) (λi _=>(0,(false,(i:Int),()),())) (λ_ _=>True)
   (λu i p g o _=>by
    obtain⟨b,d⟩:=ae1 g;have k:=aG b;unfold ev;rw[aq<|aG b,ae,au b,aa,au d,aa];by_cases e:p.1=p.2
    .rw[cN e,aF,af,aL ai,aW e];rfl
    .rw[bw e,az,ae,aQ e];rfl)
   (λ_ _ _ _ _ _ _=>trivial)
   (λu _=>by
    have e:(x.zip y).length=x.length:=by rw[adP,a,adZ]
    unfold ev;rw[e,ay,af])
   (λ_ _ _ _ _ h=>by cases h) () trivial
  obtain⟨q,b,d,l⟩:=QY (λi j=>(j,(false,_),())) (λ_ _=>⟨rfl,rfl⟩) (x.zip y) 0;have c:Loop _ ((false,(0:Int),()),())=ab q:=key.trans b;rw[c,aa,d,l,SF a];by_cases e:x=y
  .rw[dE e,aW rfl,bW,ae]
  .rw[cL e,aQ aY,eZ,af]
 .rw[cL a,az,ae,cL λe=>a (by rw[e])]
def zF(p d:aw)(a:p.length<=4096)(b:d.length<=4096):dF (p,d,())=ab (dt (parts p)<|parts d,()):=by
 unfold dF dt;have c:=fQ p;rw[rn p ai,aa,rn d ai,aa];dsimp only;rw[Gp];by_cases h:(parts d).length<(parts p).length
 .rw[dE h,ae,show inside 0 _ _=true from aU aK (by rw[bE];omega) (by rw[bE,bE];omega),ae,Dg,ab0 _ _ (by rw[km];omega) ai,aa,aa];simp[h]
 .rw[cL h,af,aa];simp[h]
def SZ(p d:aw)(k:p.length<=4096)(o:d.length<=4096):ud (p,d,())=ab (dt (parts p)<|parts d,()):=by
 unfold ud dt;have c:=fQ p;have g:=fQ d;rw[iC p ai,aa,iC d ai,aa];dsimp only;rw[MV];generalize parts p=x at c;generalize parts d=y at g;by_cases h:y.length<x.length
 .rw[cL ai,af];have e:(x.zip y).length=y.length:=by rw[adP];omega
  have key:=pZ (f:=pb (x,()) (y,())) (x.zip y) (λ_ i=>((false,(i:Int),()),()))
   (λi _ p=>ab (if p.1=p.2 then .inl () else .inr _)) (λi _=>(0,(false,(i:Int),()),())) (λ_ _=>True)
   (λu i p k r _=>by
    obtain⟨c,g⟩:=ae1 k;unfold pb;rw[aq<|aG c,aq (aG g),ae,ae,au c,aa,au g,aa];by_cases e:p.1=p.2
    .rw[cN e,aF,af,aL ai,aW e];rfl
    .rw[bw e,az,ae,aQ e];rfl)
   (λ_ _ _ _ _ _ _=>trivial)
   (λu _=>by
    unfold pb;rw[e,ay,af,af])
   (λ_ _ _ _ _ h=>by cases h) () trivial
  obtain⟨q,l,m,n⟩:=QY (λi j=>(j,(false,_),())) (λ_ _=>⟨rfl,rfl⟩) (x.zip y) 0;have b:Loop _ ((false,(0:Int),()),())=ab q:=key.trans l;rw[b,aa,m,n,Vx,show min x.length y.length=y.length by omega,DG];by_cases a:x.take y.length=y
  .rw[dE a,aW rfl,bW,ae];simp[h,a]
  .rw[cL a,aQ aY,eZ,af];simp[a]
 .rw[dE ai,ae];simp[h]
def QZ(x:aw):jg (x,())=ab (false,()):=by
 unfold jg;rw[rW];rfl
def afo(x y:aw):j7 (x,y,())=ab (Vv x y,()):=by
 unfold j7 Vv;rw[QZ,aa,QZ,aa];rw[af,af,Yi];rcases Di x y with h|rfl|h
 .rw[h,ae,aW rfl]
 .rw[kt,af,af,aQ aY,aW rfl]
 .rw[rj h,af,h,ae,aQ aY,aQ λe=>EX h e.symm]
def Cp(a b:aw)(F:a.length<=4096)(G:b.length<=4096):hM (a,b,())=ab (cmpL (parts a)<|parts b,()):=by
 unfold hM;have s:=fQ a;have t:=fQ b;rw[rn a ai,aa,rn b ai,aa];generalize parts a=x at s;generalize parts b=y at t;have run:∀(n i:Nat),x.length-i<=n->i<=x.length->i<=y.length->x.take i=y.take i->∃q,Loop (dO (x,()) (y,())) ((0,(i:Int),()),())=ab q /\
   (if q.1=0 then x.length<=y.length/\cmpL (x.drop i) (y.drop i)=(if x.length<y.length then -1 else 0) else q.1=1/\q.2.1.1=cmpL (x.drop i) (y.drop i)):=by
  intro n;induction n with
  | zero =>
    intro i w z k A;obtain rfl:i=x.length:=ai;refine⟨(0,(0,(x.length:Int),()),()),?_,?_⟩
    .rw[aT];have:dO (x,()) (y,()) ((0,(x.length:Int),()),())=ab (.inr (0,(0,(x.length:Int),()),())):=by
      unfold dO;rw[ay,af]
     grind
    .rw[aW rfl];refine⟨k,?_⟩;rw[LB];by_cases h:x.length<y.length
     .rw[aW h];cases hd:y.drop x.length with
      | nil=>have:=congrArg List.length hd;rw[nV] at this;simp only[gj] at this;omega
      | cons b r=>rfl
     .rw[aQ h,JT ai];rfl
  | succ n H =>
    intro i w z k A;by_cases hi:i<x.length
    .obtain⟨u,d⟩:∃u,x[i]?=ab u:=⟨_,ia hi⟩;obtain⟨B,f⟩:=ib.1 d;have m:x.drop i=u::x.drop (i+1):=by rw[zg hi,f]
     rw[aT];by_cases o:i<y.length
     .obtain⟨v,p⟩:∃v,y[i]?=ab v:=⟨_,ia o⟩;obtain⟨C,g⟩:=ib.1 p;have D:y.drop i=v::y.drop (i+1):=by rw[zg o,g]
      have st:dO (x,()) (y,()) ((0,(i:Int),()),())=if u=v then ab (.inl ((0,((i+1:Nat):Int),()),())) else ab (.inr (1,(Vv u v,(i:Int),()),())):=by
       unfold dO;dsimp only;rw[aq hi,ae,au d,aa,Ap,cL ai,af,au p,aa,afo,aa];by_cases e:u=v
       .rw[aW e,show Vv u v=0 by unfold Vv;rw[e,kt,aQ aY,aW rfl],show nt _=false from rfl,af,aL ai]
       .rw[aQ e,show aS _ 0=false from ax (by unfold Vv;split<;>(try split)<;>first|decide|exact absurd (by assumption) e),az,ae]
      rw[st,m,D,cmpL];by_cases e:u=v
      .grind
      .rw[aQ e,aQ e];refine⟨_,rfl,?_⟩;refine⟨rfl,?_⟩;show Vv u v=_
       unfold Vv
       grind
     .have st:dO (x,()) (y,()) ((0,(i:Int),()),())=ab (.inr (1,(1,(i:Int),()),())):=by
       unfold dO;dsimp only;rw[aq hi,ae,au d,aa,Ap,dE ai,ae]
      rw[st];refine⟨_,rfl,?_⟩;rw[aQ aY,m,show y.drop i=[] from JT ai];exact⟨rfl,rfl⟩
    .grind
 obtain⟨q,E,c⟩:=run x.length 0 ai ai ai rfl;have j:Loop (dO _ _) ((0,(0:Int),()),())=ab q:=E;rw[j,aa];rw[zZ,zZ] at c;by_cases h:q.1=0
 .rw[aW h] at c;rw[h,bW,ae,Gp,c.2];by_cases l:x.length<y.length
  .rw[dE l,ae,aW l]
  .rw[cL l,af,aQ l]
 .rw[aQ h] at c;rw[c.1,eZ,af,c.2]
def Cq(a b:aw)(F:a.length<=4096)(G:b.length<=4096):mJ (a,b,())=ab (cmpL (parts a)<|parts b,()):=by
 unfold mJ;have s:=fQ a;have t:=fQ b;rw[iC a ai,aa,iC b ai,aa];generalize parts a=x at s;generalize parts b=y at t;have run:∀(n i:Nat),x.length-i<=n->i<=x.length->i<=y.length->∃q,Loop (dP (x,()) (y,())) ((0,(i:Int),()),())=ab q /\
   (if q.1=0 then cmpL (x.drop i) (y.drop i)=(if x.length<y.length then -1 else if y.length<x.length then 1 else 0) else q.1=1/\q.2.1.1=cmpL (x.drop i) (y.drop i)):=by
  intro n;induction n with
  | zero =>
    intro i w z A;obtain rfl:i=x.length:=ai;refine⟨(0,(0,(x.length:Int),()),()),?_,?_⟩
    .rw[aT];have:dP (x,()) (y,()) ((0,(x.length:Int),()),())=ab (.inr (0,(0,(x.length:Int),()),())):=by
      unfold dP;rw[ay,af,af]
     grind
    .rw[aW rfl,LB];by_cases h:x.length<y.length
     .rw[aW h];cases hd:y.drop x.length with
      | nil=>have:=congrArg List.length hd;rw[nV] at this;simp only[gj] at this;omega
      | cons b r=>rfl
     .rw[aQ h,JT ai,aQ ai];rfl
  | succ n H =>
    intro i w z A;by_cases hi:i<x.length
    .obtain⟨u,k⟩:∃u,x[i]?=ab u:=⟨_,ia hi⟩;obtain⟨B,f⟩:=ib.1 k;have o:x.drop i=u::x.drop (i+1):=by rw[zg hi,f]
     rw[aT];by_cases d:i<y.length
     .obtain⟨v,p⟩:∃v,y[i]?=ab v:=⟨_,ia d⟩;obtain⟨C,g⟩:=ib.1 p;have D:y.drop i=v::y.drop (i+1):=by rw[zg d,g]
      have st:dP (x,()) (y,()) ((0,(i:Int),()),())=if u=v then ab (.inl ((0,((i+1:Nat):Int),()),())) else ab (.inr (1,(if fq u v=true then -1 else 1,((i:Int),())),())):=by
       unfold dP;rw[aq hi,aq d,ae,ae,au k,aa,au p,aa,aa,aa,Yi];rcases Di u v with h|rfl|h
       .rw[h,ae,aQ (EX h),aW rfl]
       .rw[kt,af,af,aW rfl,aL ai]
       .rw[rj h,af,h,ae,aQ (λe=>EX h e.symm),aQ aY]
      rw[st,o,D,cmpL]
      grind
     .have st:dP (x,()) (y,()) ((0,(i:Int),()),())=ab (.inr (0,(0,(i:Int),()),())):=by
       unfold dP;rw[aq hi,Gm,cL d,ae,af]
      rw[st];refine⟨_,rfl,?_⟩;rw[aW rfl,o,show y.drop i=[] from JT ai,aQ ai,aW ai];rfl
    .grind
 obtain⟨q,E,c⟩:=run x.length 0 ai ai ai;have j:Loop (dP _ _) ((0,(0:Int),()),())=ab q:=E;rw[j,aa];rw[zZ,zZ] at c;by_cases h:q.1=0
 .rw[aW h] at c;rw[h,bW,ae,Gp,Gp,c];by_cases l:x.length<y.length
  .rw[dE l,ae,aW l]
  .rw[cL l,af,aQ l];by_cases m:y.length<x.length
   .rw[dE m,ae,aW m]
   .rw[cL m,af,aQ m]
 .rw[aQ h] at c;rw[c.1,eZ,af,c.2]
def Ju(s p:aw):cw (s,p,())=ab (decide<|s.take p.length=p,()):=by
 unfold cw;rw[MV];by_cases h:p.length<=s.length
 .rw[dE h,ae,show inside 0 (len p) (len s)=true from aU aK (by rw[bE];omega) (by rw[bE,bE];omega),ae,Dg,aa];rfl
 .rw[cL h,af,aa,cL]
  grind
def M9(s p:aw):cE (s,p,())=ab (decide<|s.take p.length=p,()):=by
 unfold cE;rw[Ju,aa]
def Na(s p:aw):oo (s,p,())=ab (decide<|s.take p.length=p,()):=by
 unfold oo;rw[MV];by_cases h:p.length<=s.length
 .rw[dE h,ae,show inside 0 (len p) (len s)=true from aU aK (by rw[bE];omega) (by rw[bE,bE];omega),ae,Dg,aa];rfl
 .rw[cL h,af,aa,cL]
  grind
def afp(s p:aw):kM (s,p,())=ab (if s.take p.length=p then(s.drop p.length,true,()) else(s,false,())):=by
 unfold kM fN;rw[Ju,aa];by_cases h:s.take p.length=p
 .have a:p.length<=s.length:=by
   grind
  rw[dE h,aF,af,show inside (len p) _ (len s)=true from aU (by rw[bE];omega) (by rw[bE,bE];omega) (sN _),ae,aa,aW h];rw[show sub s (len p) (minus _<|len p)=s.drop p.length from mG s p.length a]
 .rw[cL h,az,ae,aa,aQ h]
def Pu(l:List aw)(s:aw)(j:l.length<=1048576):bB (l,s,())=ab (decide<|s∈l,()):=by
 unfold bB fi;have key:=pZ (f:=bX (l,s,())) l (λ_ i=>((0,(i:Int),()),()))
  (λi _ x=>ab (if s=x then .inr _ else .inl ())) (λi _=>(0,(0,(i:Int),()),())) (λ_ _=>True)
  (λu i x c d _=>by
   unfold bX;rw[aq d,ae,au c,aa];by_cases e:s=x
   .rw[cN e,ae,aW e];rfl
   .rw[bw e,af,aQ e,aL ai];rfl)
  (λ_ _ _ _ _ _ _=>trivial)
  (λu _=>by
   unfold bX;rw[ay,af])
  (λ_ _ _ _ _ h=>by cases h) () trivial
 have run:∀(r:List _) (i:Nat),∃q,uV (λi _ x=>ab (if s=x then Sum.inr (1,((i:Int),(i:Int),()),()) else Sum.inl ())) (λi _=>((0:Nat),((0:Int),(i:Int),()),())) r i ()=ab q /\
   (if s∈r then q.1=1/\0<=q.2.1.1 else q.1=0):=by
  intro r;induction r with
  | nil=>intro i;exact⟨_,rfl,aY⟩
  | cons x r k =>
    intro i;unfold uV;by_cases h:s=x
    .simp_all
    .simp_all
 obtain⟨q,g,a⟩:=run l 0;have b:Loop (bX (l,_)) ((0,(0:Int),()),())=ab q:=key.trans g;rw[b,aa];by_cases h:s∈l
 .rw[aW h] at a;rw[a.1,eZ,af,aa,dE h];rw[bO a.2]
 .rw[aQ h] at a;rw[a,bW,ae,aa,cL h];rfl
def wh:aw:=[46,119,104,46]
def nM(n:aw):Int×aw :=
 if n.take 4=wh then(if n.drop 4=[46,119,104,46,46,111,112,113] then(2,[]) else if(n.drop 4).take 4=wh\/n.drop 4=[]\/n.drop 4=[46]\/n.drop 4=[46,46] then(3,[]) else(1,n.drop 4)) else(0,n)
def VS(n:aw):r8 (n,())=ab ((nM n).1,(nM n).2,()):=by
 unfold r8 nM;rw[show([46,119,104,46]:aw)=wh from rfl,afp,aa,show wh.length=4 from rfl];by_cases h:n.take 4=wh
 .have e:n=wh++n.drop 4:=by rw[<-h,BR]
  rw[aW h,aW h];rw[aF,af];generalize n.drop 4=r at e;by_cases a:r=[46,119,104,46,46,111,112,113]
  .rw[aW a,cN (by rw[e,a];rfl),ae]
  .rw[aQ a,bw (by rw[e];intro q;exact a (by simpa [wh] using q)),af,M9,aa];rw[show wh.length=4 from rfl];by_cases b:r.take 4=wh
   .rw[aW<|.inl b,dE b,aF,af,aa,ae]
   .rw[cL b,az,ae,Pu _ _ aK,aa,aa,MW]
    grind
 .rw[aQ h,aQ h];rfl
def Jv(n:aw):sa (n,())=ab ((nM n).1,(nM n).2,()):=by
 unfold sa nM;rw[Na,Na];by_cases h:n.take 4=wh
 .have e:n=wh++n.drop 4:=by rw[<-h,BR]
  rw[aW h];generalize g:n.drop 4=r at e;by_cases a:r=[46,119,104,46,46,111,112,113]
  .rw[aW a,cN (by rw[e,a];rfl),ae]
  .rw[aQ a,bw (by rw[e];intro q;exact a (by simpa [wh] using q)),af,aa];have i:decide (n.take ([46,119,104,46,46,119,104,46]:aw).length=[46,119,104,46,46,119,104,46])=decide (r.take 4=wh):=by
    rw[e];apply hH.2;simp[wh]
   have j:bG n [46,119,104,46]=decide (r=[]):=by
    rw[e];apply hH.2;simp[wh]
   have k:bG n [46,119,104,46,46]=decide (r=[46]):=by
    rw[e];apply hH.2;simp[wh]
   have l:bG n [46,119,104,46,46,46]=decide (r=[46,46]):=by
    rw[e];apply hH.2;simp[wh]
   have m:decide (n.take ([46,119,104,46]:aw).length=[46,119,104,46])=true:=dE h;rw[i,j,k,l,m];have o:ao (ao (nt<|ao (nt<|ao (nt<|decide<|r.take 4=wh) (decide<|r=[]) true) (decide<|r=[46]) true) (decide<|r=[46,46]) true)=λ(x y:Option (Int×aw×al))=>if r.take 4=wh\/r=[]\/r=[46]\/r=[46,46] then x else y:=by
    funext x y;by_cases b1:r.take 4=wh
    .rw[aW<|.inl b1];simp[b1,ao,nt]
    .by_cases c:r=[]
     .rw[aW<|.inr<|.inl c];simp[c,ao,nt]
     .by_cases d:r=[46]
      .rw[aW<|.inr<|.inr<|.inl d];simp[d,ao,nt]
      .by_cases f:r=[46,46]
       .rw[aW<|.inr<|.inr<|.inr f];simp[f,ao,nt]
       .rw[aQ<|by simp[b1,c,d,f]];simp[b1,c,d,f,ao,nt]
   rw[o];dsimp only;by_cases b:r.take 4=wh\/r=[]\/r=[46]\/r=[46,46]
   .grind
   .rw[aQ b,aQ b,aa];have p:4<=n.length:=by rw[e];simp[wh]
    rw[ae,show inside 4 _ _=true from aU aK (by rw[bE];omega) (sN _),ae,show sub n 4 (minus _ 4)=n.drop 4 from mG n 4 p,g]
 .rw[aQ h];have s:n≠[46,119,104,46,46,119,104,46,46,111,112,113]:=λq=>h (by rw[q];rfl);have t:n≠[46,119,104,46]:=λq=>h (by rw[q];rfl);have u:n≠[46,119,104,46,46]:=λq=>h (by rw[q];rfl);have v:n≠[46,119,104,46,46,46]:=λq=>h (by rw[q];rfl);have w:¬n.take ([46,119,104,46,46,119,104,46]:aw).length=[46,119,104,46,46,119,104,46]:=λq=>h (by
   have:=congrArg (List.take 4) q;rw[I0] at this;exact this)
  rw[bw s,af,aa];rw[cL w,bw t,bw u,bw v];rw[show ao _=λ(x y:Option _)=>y from rfl];rw[aa];rw[cL<|by exact h,af]
def jC{a b:Bool}:ao a b false=(a&&b):=by cases a<;>rfl
def ab1{s:aw}(h:(lB s).2=0):nL s=true/\(lB s).1=aN (names s):=by
 unfold lB at h⊢
 grind
def rr{s:aw}(h:nL s=true):(names s).all sQ=true/\(names s).length<=8/\(aN<|names s).length<=96:=by
 unfold nL at h
 grind
def YD{l:List aw}(h:∀x∈l,47∉x/\x≠[]):(aN l).head?≠ab 47:=by
 cases l with
 | nil=>simp[aN]
 | cons x r =>
   obtain⟨c,a⟩:=h x (pL ..);have e:(aN (x::r)).head?=x.head?:=by
    cases x with
    | nil=>exact absurd rfl a
    | cons b x=>cases r<;>simp[aN]
   cases x with
   | nil=>exact absurd rfl a
   | cons b x =>
     grind
def Nb(l:List aw)(a:List aw)(h:∀x∈a++l,47∉x/\x≠[]):l.foldl rq (aN a)=aN (a++l):=by
 induction l generalizing a with
 | nil=>simp
 | cons x r d =>
   have e:rq (aN a) x=aN (a++[x]):=by
    unfold rq;cases a with
    | nil=>rw[aN,aW (.inl rfl)];rfl
    | cons y q =>
      have c:aN (y::q)≠[]:=by
       have:=(h y aY).2;cases q with
       | nil=>rw[aN];exact this
       | cons z q=>rw[aN];simp
      have gen:∀(y:aw) (q:List _),aN (y::q++[x])=aN (y::q)++47::x:=by
       intro y q;induction q generalizing y with
       | nil=>rfl
       | cons z q b =>
         rw[JW,JW,aN,<-JW,b z];rw[aN];simp
      grind
   grind
def Cr{l:List aw}(h:∀x∈l,47∉x/\x≠[])(c:l≠[]):bp (aN l)=(aN l.dropLast,l.getLast c):=by
 have d:=GA l c λx g=>(h x g).1;rcases rp _ with ⟨e,f⟩|⟨a,b,i,e,f⟩
 .rw[ph _ e] at d;rw[f];generalize aN l=p at d;subst d;rfl
 .rw[f];rw[i,Co a b e] at d;subst d;rw[List.dropLast_concat,List.getLast_concat,v7]
set_option maxRecDepth 100000
abbrev dk:=(Sb×Sb×Sb×al)
abbrev jl:=(Sb×(List Sb)×Sb×Sb×(List dk)×al)
abbrev pN:=((List<|Sb×(List Sb)×Sb×Sb×Sb×(List dk)×al)×(List jl)×(List<|Sb×Sb×(List Sb)×Sb×Int×Int×Bool×al)×(List Sb)×(List<|Sb×Int×al)×al)
abbrev qU:=(Sb×(List Sb)×al)
abbrev eY:=(Int×Int×al)
abbrev YE:=(Sb×(List Sb)×Sb×Sb×Sb×(List dk)×al)
abbrev afq:=(Sb×Sb×(List Sb)×Sb×Int×Int×Bool×al)
abbrev E4:=(Bool×Int×al)
abbrev E5:=(Nat×eY×al×Sb×al)
abbrev E6:=(eY×al×Sb×al)
abbrev yf:=((al×Int×al)×(List Sb)×al)
abbrev GC:=(Nat×eY×Sb×al)
abbrev S0:=(Sb×Int×Int×al)
abbrev GD:=(aw×((List aw)×(aw×(aw×((List<|aw×(aw×(aw×al)))×al)))))
abbrev GF:=(eY×Sb×al)
abbrev aap:=(Nat×E4×al)
abbrev alG:=((Int×al)×al×(List qU)×al)
abbrev S1:=(Int×Sb×Int×Sb×al)
abbrev K5:=(Nat×eY×al×dk×al)
abbrev alH:=(Nat×eY×(List Sb)×al)
abbrev alI:=(Int×(List afq)×(List jl)×(List YE)×al)
abbrev alJ:=((Nat×(al×Int×al)×(List Sb)×al))
abbrev K6:=(eY×al×dk×al)
abbrev alK:=(eY×(List Sb)×al)
abbrev aaq:=(E4×al)
abbrev alL:=((Nat×(Int×al)×al×(List qU)×al))
abbrev aar:=(Nat×eY×al×jl×al)
abbrev GG:=(aw×(aw×(aw×al)))
abbrev K7:=(al×Int×al)
def aO(l:List GG)(x:(Int×((List GG)×al))):Option (List GG):=uU l x.1 x.2.1
def bk(l:List GD)(x:(Int×(Int×al))):Option (List GD):=HS l x.1 x.2.1
def bC(l:List GG)(x:(Int×(Int×al))):Option (List GG):=HS l x.1 x.2.1
def bH(l:List GD)(x:(Int×((List GD)×al))):Option (List GD):=uU l x.1 x.2.1
def cc(x:dk×al):Option (Sb×al) :=
 ab (x.1.1,())
def bQ(x:(List dk)×al):Option ((List dk)×al) :=
 bif fits (len x.1) then ab (x.1,()) else ah
def kO(x:(List dk)×Sb×Sb×al)(a:eY×al×Sb×al):Option (E6⊕E5) :=
 ao (aZ a.1.2.1<|len x.1)
 (ag (idx x.1 a.1.2.1) λb=>ag (cc (b,())) λc=>ao (bG c.1 a.2.2.1)
 (ab<|Sum.inr (1,(a.1.2.1,a.1.2.1,()),(),a.2.2.1,()))
 (ab<|Sum.inl ((a.1.1,aH i64 a.1.2.1 1,()),(),a.2.2.1,())))
 (ab<|Sum.inr (0,(a.1.1,a.1.2.1,()),(),a.2.2.1,()))
def kP(x:(List dk)×Sb×Sb×al)(a:eY×al×Sb×al):Option (E6⊕E5) :=
 ao (aZ a.1.2.1<|len x.1)
 (ag (idx x.1 a.1.2.1) λb=>ag (cc (b,())) λc=>ao (bG c.1 a.2.2.1)
 (ab<|Sum.inr (1,(a.1.2.1,a.1.2.1,()),(),a.2.2.1,()))
 (ab<|Sum.inl ((a.1.1,aH i64 a.1.2.1 1,()),(),a.2.2.1,())))
 (ab<|Sum.inr (0,(a.1.1,a.1.2.1,()),(),a.2.2.1,()))
def kQ(b:(al×al)×(List dk)×al)(a:eY×al×dk×al):Option (K6⊕K5) :=
 ao (aZ a.1.2.1<|len b.2.1)
 (ao (within a.1.2.1<|len b.2.1)
 (ag (idx b.2.1 a.1.2.1) λd=>ag (cc (d,())) λe=>ag (cc (a.2.2.1,())) λc=>ao (nt<|fq e.1 c.1)
 (ab<|Sum.inr (1,(a.1.2.1,a.1.2.1,()),(),a.2.2.1,()))
 (ab<|Sum.inl ((a.1.1,aH i64 a.1.2.1 1,()),(),a.2.2.1,())))
 ah)
 (ab<|Sum.inr (0,(a.1.1,a.1.2.1,()),(),a.2.2.1,()))
def kR(b:(al×al)×(List dk)×al)(a:eY×al×dk×al):Option (K6⊕K5) :=
 ao (aZ a.1.2.1<|len b.2.1)
 (ao (within a.1.2.1<|len b.2.1)
 (ag (idx b.2.1 a.1.2.1) λd=>ag (cc (d,())) λe=>ag (cc (a.2.2.1,())) λc=>ao (nt<|fq e.1 c.1)
 (ab<|Sum.inr (1,(a.1.2.1,a.1.2.1,()),(),a.2.2.1,()))
 (ab<|Sum.inl ((a.1.1,aH i64 a.1.2.1 1,()),(),a.2.2.1,())))
 ah)
 (ab<|Sum.inr (0,(a.1.1,a.1.2.1,()),(),a.2.2.1,()))
def kS(x:(List dk)×Sb×Sb×al)(a:eY×al×Sb×al):Option (E6⊕E5) :=
 ao (aZ a.1.2.1<|len x.1)
 (ag (idx x.1 a.1.2.1) λb=>ag (cc (b,())) λc=>ao (bG c.1 a.2.2.1)
 (ab<|Sum.inr (1,(a.1.2.1,a.1.2.1,()),(),a.2.2.1,()))
 (ab<|Sum.inl ((a.1.1,aH i64 a.1.2.1 1,()),(),a.2.2.1,())))
 (ab<|Sum.inr (0,(a.1.1,a.1.2.1,()),(),a.2.2.1,()))
def kT(b:(al×al)×(List dk)×al)(a:eY×al×dk×al):Option (K6⊕K5) :=
 ao (aZ a.1.2.1<|len b.2.1)
 (ao (within a.1.2.1<|len b.2.1)
 (ag (idx b.2.1 a.1.2.1) λd=>ag (cc (d,())) λe=>ag (cc (a.2.2.1,())) λc=>ao (nt<|fq e.1 c.1)
 (ab<|Sum.inr (1,(a.1.2.1,a.1.2.1,()),(),a.2.2.1,()))
 (ab<|Sum.inl ((a.1.1,aH i64 a.1.2.1 1,()),(),a.2.2.1,())))
 ah)
 (ab<|Sum.inr (0,(a.1.1,a.1.2.1,()),(),a.2.2.1,()))
def kU(b:(al×al)×(List dk)×al)(a:eY×al×dk×al):Option (K6⊕K5) :=
 ao (aZ a.1.2.1<|len b.2.1)
 (ao (within a.1.2.1<|len b.2.1)
 (ag (idx b.2.1 a.1.2.1) λd=>ag (cc (d,())) λe=>ag (cc (a.2.2.1,())) λc=>ao (nt<|fq e.1 c.1)
 (ab<|Sum.inr (1,(a.1.2.1,a.1.2.1,()),(),a.2.2.1,()))
 (ab<|Sum.inl ((a.1.1,aH i64 a.1.2.1 1,()),(),a.2.2.1,())))
 ah)
 (ab<|Sum.inr (0,(a.1.1,a.1.2.1,()),(),a.2.2.1,()))
def lC(x:(List dk)×Sb×Sb×al):Option ((List dk)×Int×al) :=
 ag (mK (x.2.1,())) (λh=>ao (ao (nt<|nt h.1)
 (aZ 64<|len x.2.2.1)
 true)
 (ab (([]:List dk),(1:Int),()))
 (ag (Loop (kO x) (((0:Int),(0:Int),()),(),x.2.1,())) λg=>ao (da g.1 0)
 (ao (ao (aZ (-1) 0)
 (cj 4<|len x.1)
 false)
 (ab (([]:List dk),(5:Int),()))
 (ag (oi (x.2.2.1,())) λe=>ag (cc ((x.2.1,e.1,x.2.2.1,()),())) λf=>ao (fits<|len x.1)
 (ag (Loop (kP x) (((0:Int),(0:Int),()),(),f.1,())) λd=>ao (da d.1 0)
 (ag (ao (cj 0<|-1)
 (ag (bC x.1 ((-1:Int),aH i64 (-1) 1,())) λa=>ab (((),()),a,()))
 (ab (((),()),x.1,()))) λa=>ag (Loop (kQ a) (((0:Int),(0:Int),()),(),(x.2.1,e.1,x.2.2.1,()),())) λb=>ao (da b.1 0)
 (ag (aO a.2.1 (((ao (aZ (-1) 0)
 ((len a.2.1,()),())
 (((-1:Int),()),())).1).1,([b.2.2.2.1]:List dk),())) λc=>ab (c,(0:Int),()))
 (ag (aO a.2.1 (((ao (aZ b.2.1.1 0)
 ((len a.2.1,()),())
 ((b.2.1.1,()),())).1).1,([b.2.2.2.1]:List dk),())) λc=>ab (c,(0:Int),())))
 (ag (ao (cj 0 d.2.1.1)
 (ag (bC x.1 (d.2.1.1,aH i64 d.2.1.1 1,())) λa=>ab (((),()),a,()))
 (ab (((),()),x.1,()))) λa=>ag (Loop (kR a) (((0:Int),(0:Int),()),(),(x.2.1,e.1,x.2.2.1,()),())) λb=>ao (da b.1 0)
 (ag (aO a.2.1 (((ao (aZ (-1) 0)
 ((len a.2.1,()),())
 (((-1:Int),()),())).1).1,([b.2.2.2.1]:List dk),())) λc=>ab (c,(0:Int),()))
 (ag (aO a.2.1 (((ao (aZ b.2.1.1 0)
 ((len a.2.1,()),())
 ((b.2.1.1,()),())).1).1,([b.2.2.2.1]:List dk),())) λc=>ab (c,(0:Int),()))))
 ah))
 (ao (ao (aZ g.2.1.1 0)
 (cj 4<|len x.1)
 false)
 (ab (([]:List dk),(5:Int),()))
 (ag (oi (x.2.2.1,())) λe=>ag (cc ((x.2.1,e.1,x.2.2.1,()),())) λf=>ao (fits<|len x.1)
 (ag (Loop (kS x) (((0:Int),(0:Int),()),(),f.1,())) λd=>ao (da d.1 0)
 (ag (ao (cj 0<|-1)
 (ag (bC x.1 ((-1:Int),aH i64 (-1) 1,())) λa=>ab (((),()),a,()))
 (ab (((),()),x.1,()))) λa=>ag (Loop (kT a) (((0:Int),(0:Int),()),(),(x.2.1,e.1,x.2.2.1,()),())) λb=>ao (da b.1 0)
 (ag (aO a.2.1 (((ao (aZ (-1) 0)
 ((len a.2.1,()),())
 (((-1:Int),()),())).1).1,([b.2.2.2.1]:List dk),())) λc=>ab (c,(0:Int),()))
 (ag (aO a.2.1 (((ao (aZ b.2.1.1 0)
 ((len a.2.1,()),())
 ((b.2.1.1,()),())).1).1,([b.2.2.2.1]:List dk),())) λc=>ab (c,(0:Int),())))
 (ag (ao (cj 0 d.2.1.1)
 (ag (bC x.1 (d.2.1.1,aH i64 d.2.1.1 1,())) λa=>ab (((),()),a,()))
 (ab (((),()),x.1,()))) λa=>ag (Loop (kU a) (((0:Int),(0:Int),()),(),(x.2.1,e.1,x.2.2.1,()),())) λb=>ao (da b.1 0)
 (ag (aO a.2.1 (((ao (aZ (-1) 0)
 ((len a.2.1,()),())
 (((-1:Int),()),())).1).1,([b.2.2.2.1]:List dk),())) λc=>ab (c,(0:Int),()))
 (ag (aO a.2.1 (((ao (aZ b.2.1.1 0)
 ((len a.2.1,()),())
 ((b.2.1.1,()),())).1).1,([b.2.2.2.1]:List dk),())) λc=>ab (c,(0:Int),()))))
 ah))))
def kV(x:(List dk)×Sb×al)(a:eY×al×Sb×al):Option (E6⊕E5) :=
 ao (aZ a.1.2.1<|len x.1)
 (ag (idx x.1 a.1.2.1) λb=>ag (cc (b,())) λc=>ao (bG c.1 a.2.2.1)
 (ab<|Sum.inr (1,(a.1.2.1,a.1.2.1,()),(),a.2.2.1,()))
 (ab<|Sum.inl ((a.1.1,aH i64 a.1.2.1 1,()),(),a.2.2.1,())))
 (ab<|Sum.inr (0,(a.1.1,a.1.2.1,()),(),a.2.2.1,()))
def lD(x:(List dk)×Sb×al):Option (Sb×Int×al) :=
 ag (Loop (kV x) (((0:Int),(0:Int),()),(),x.2.1,())) (λa=>ao (da a.1 0)
 (ao (aZ (-1) 0)
 (ab (([]:aw),(3:Int),()))
 (ag (idx x.1 (-1:Int)) λb=>ab (b.2.2.1,(0:Int),())))
 (ao (aZ a.2.1.1 0)
 (ab (([]:aw),(3:Int),()))
 (ag (idx x.1 a.2.1.1) λb=>ab (b.2.2.1,(0:Int),()))))
def jm(x:Int×al):Option (S1×al) :=
 ab ((x.1,([]:aw),(0:Int),([]:aw),()),())
def pj(x:(List qU)×Sb×al)(a:eY×Sb×al):Option (GF⊕GC) :=
 ao (aZ a.1.2.1<|len x.1)
 (ag (idx x.1 a.1.2.1) λb=>ao (bG b.1 a.2.1)
 (ab<|Sum.inr (1,(a.1.2.1,a.1.2.1,()),a.2.1,()))
 (ab<|Sum.inl ((a.1.1,aH i64 a.1.2.1 1,()),a.2.1,())))
 (ab<|Sum.inr (0,(a.1.1,a.1.2.1,()),a.2.1,()))
def iU(x:(List qU)×Sb×al)(a:eY×Sb×al):Option (GF⊕GC) :=
 ao (aZ a.1.2.1<|len x.1)
 (ag (idx x.1 a.1.2.1) λb=>ag (bB (b.2.1,a.2.1,())) λc=>ao c.1
 (ab<|Sum.inr (1,(a.1.2.1,a.1.2.1,()),a.2.1,()))
 (ab<|Sum.inl ((a.1.1,aH i64 a.1.2.1 1,()),a.2.1,())))
 (ab<|Sum.inr (0,(a.1.1,a.1.2.1,()),a.2.1,()))
def pn(x:(List qU)×Sb×al)(c:Nat×eY×Sb×al)(a:K7×(List Sb)×al):Option (yf⊕yf) :=
 dn (ao (aZ a.1.2.1<|len x.1)
 (ag (idx x.1 a.1.2.1) λb=>ag (cE (b.1,c.2.2.1,())) λd=>ag (ao d.1
 (ao (fits<|plus (len a.2.1)<|len ([b.1]:List Sb))
 (ab (((),()),app a.2.1 ([b.1]:List Sb),()))
 ah)
 (ab (((),()),a.2.1,()))) λe=>ab (Sum.inl (((),aH i64 a.1.2.1 1,()),e.2.1,())))
 (ab<|Sum.inr (0,((),a.1.2.1,()),a.2.1,())))
def H3(x:(List qU)×Sb×al)(c:Nat×eY×Sb×al)(a:K7×(List Sb)×al):Option (yf⊕yf) :=
 dn (ao (aZ a.1.2.1<|len x.1)
 (ag (idx x.1 a.1.2.1) λb=>ag (cE (b.1,c.2.2.1,())) λd=>ag (ao d.1
 (ao (fits<|plus (len a.2.1)<|len ([b.1]:List Sb))
 (ab (((),()),app a.2.1 ([b.1]:List Sb),()))
 ah)
 (ab (((),()),a.2.1,()))) λe=>ab (Sum.inl (((),aH i64 a.1.2.1 1,()),e.2.1,())))
 (ab<|Sum.inr (0,((),a.1.2.1,()),a.2.1,())))
def H4(x:(List qU)×Sb×al)(a:eY×Sb×al):Option (GF⊕GC) :=
 ao (aZ a.1.2.1<|len x.1)
 (ag (idx x.1 a.1.2.1) λb=>ag (bB (b.2.1,a.2.1,())) λc=>ao c.1
 (ab<|Sum.inr (1,(a.1.2.1,a.1.2.1,()),a.2.1,()))
 (ab<|Sum.inl ((a.1.1,aH i64 a.1.2.1 1,()),a.2.1,())))
 (ab<|Sum.inr (0,(a.1.1,a.1.2.1,()),a.2.1,()))
def H5(x:(List qU)×Sb×al)(c:Nat×eY×Sb×al)(a:K7×(List Sb)×al):Option (yf⊕yf) :=
 dn (ao (aZ a.1.2.1<|len x.1)
 (ag (idx x.1 a.1.2.1) λb=>ag (cE (b.1,c.2.2.1,())) λd=>ag (ao d.1
 (ao (fits<|plus (len a.2.1)<|len ([b.1]:List Sb))
 (ab (((),()),app a.2.1 ([b.1]:List Sb),()))
 ah)
 (ab (((),()),a.2.1,()))) λe=>ab (Sum.inl (((),aH i64 a.1.2.1 1,()),e.2.1,())))
 (ab<|Sum.inr (0,((),a.1.2.1,()),a.2.1,())))
def H6(x:(List qU)×Sb×al)(c:Nat×eY×Sb×al)(a:K7×(List Sb)×al):Option (yf⊕yf) :=
 dn (ao (aZ a.1.2.1<|len x.1)
 (ag (idx x.1 a.1.2.1) λb=>ag (cE (b.1,c.2.2.1,())) λd=>ag (ao d.1
 (ao (fits<|plus (len a.2.1)<|len ([b.1]:List Sb))
 (ab (((),()),app a.2.1 ([b.1]:List Sb),()))
 ah)
 (ab (((),()),a.2.1,()))) λe=>ab (Sum.inl (((),aH i64 a.1.2.1 1,()),e.2.1,())))
 (ab<|Sum.inr (0,((),a.1.2.1,()),a.2.1,())))
def iM(x:(List qU)×Sb×al):Option (Sb×Int×al) :=
 ag (Loop (pj x) (((0:Int),(0:Int),()),x.2.1,())) (λd=>ao (da d.1 0)
 (ao (cj 0<|-1)
 (ab (x.2.1,(0:Int),()))
 (ag (Loop (iU x) (((0:Int),(0:Int),()),x.2.1,())) λb=>ao (da b.1 0)
 (ao (cj 0<|-1)
 (ag (idx x.1 (-1:Int)) λa=>ab (a.1,(0:Int),()))
 (ag (Loop (pn x b) (((),(0:Int),()),([]:List Sb),())) λa=>ao (ao (nt<|ao (nt<|bG b.2.2.1 ([]:aw))
 (cj 6<|len b.2.2.1)
 true)
 (aS (len a.2.1) 0)
 true)
 (ab (([]:aw),(3:Int),()))
 (ao (aZ 1<|len a.2.1)
 (ab (([]:aw),(9:Int),()))
 (ao (within 0<|len a.2.1)
 (ag (idx a.2.1 (0:Int)) λc=>ab (c,(0:Int),()))
 ah))))
 (ao (cj 0 b.2.1.1)
 (ag (idx x.1 b.2.1.1) λa=>ab (a.1,(0:Int),()))
 (ag (Loop (H3 x b) (((),(0:Int),()),([]:List Sb),())) λa=>ao (ao (nt<|ao (nt<|bG b.2.2.1 ([]:aw))
 (cj 6<|len b.2.2.1)
 true)
 (aS (len a.2.1) 0)
 true)
 (ab (([]:aw),(3:Int),()))
 (ao (aZ 1<|len a.2.1)
 (ab (([]:aw),(9:Int),()))
 (ao (within 0<|len a.2.1)
 (ag (idx a.2.1 (0:Int)) λc=>ab (c,(0:Int),()))
 ah))))))
 (ao (cj 0 d.2.1.1)
 (ab (x.2.1,(0:Int),()))
 (ag (Loop (H4 x) (((0:Int),(0:Int),()),x.2.1,())) λb=>ao (da b.1 0)
 (ao (cj 0<|-1)
 (ag (idx x.1 (-1:Int)) λa=>ab (a.1,(0:Int),()))
 (ag (Loop (H5 x b) (((),(0:Int),()),([]:List Sb),())) λa=>ao (ao (nt<|ao (nt<|bG b.2.2.1 ([]:aw))
 (cj 6<|len b.2.2.1)
 true)
 (aS (len a.2.1) 0)
 true)
 (ab (([]:aw),(3:Int),()))
 (ao (aZ 1<|len a.2.1)
 (ab (([]:aw),(9:Int),()))
 (ao (within 0<|len a.2.1)
 (ag (idx a.2.1 (0:Int)) λc=>ab (c,(0:Int),()))
 ah))))
 (ao (cj 0 b.2.1.1)
 (ag (idx x.1 b.2.1.1) λa=>ab (a.1,(0:Int),()))
 (ag (Loop (H6 x b) (((),(0:Int),()),([]:List Sb),())) λa=>ao (ao (nt<|ao (nt<|bG b.2.2.1 ([]:aw))
 (cj 6<|len b.2.2.1)
 true)
 (aS (len a.2.1) 0)
 true)
 (ab (([]:aw),(3:Int),()))
 (ao (aZ 1<|len a.2.1)
 (ab (([]:aw),(9:Int),()))
 (ao (within 0<|len a.2.1)
 (ag (idx a.2.1 (0:Int)) λc=>ab (c,(0:Int),()))
 ah)))))))
def lE(x:pN×al):Option ((List qU)×al) :=
 ag (qR ((3:Int),((0:Int),x.1.2.2.1,([]:List jl),([]:List YE),()),())) (λa=>ab (a.1,()))
def dG(x:pN×Sb×al):Option (Sb×Int×al) :=
 ag (lE (x.1,())) (λb=>ag (iM (b.1,x.2.1,())) λa=>ab (a.1,a.2.1,()))
def gK(x:pN×al):Option ((List qU)×al) :=
 ag (qR ((2:Int),((0:Int),([]:List afq),x.1.2.1,([]:List YE),()),())) (λa=>ab (a.1,()))
def yg(x:Int×al):Option (Sb×al) :=
 ao (aZ 16 0)
 ah
 (ao (aZ 8 0)
 ah
 (ag (mg (bu ([kF IntKind.u8<|mE i64 x.1 16,kF IntKind.u8 (mE i64 x.1 8),kF IntKind.u8 x.1]:List (Int)),())) λa=>ab (a.1,())))
def gV(x:(List qU)×Int×al)(a:eY×Sb×al):Option (GF⊕GC) :=
 ao (aZ a.1.2.1<|len x.1)
 (ag (idx x.1 a.1.2.1) λb=>ao (bG b.1 a.2.1)
 (ab<|Sum.inr (1,(a.1.2.1,a.1.2.1,()),a.2.1,()))
 (ab<|Sum.inl ((a.1.1,aH i64 a.1.2.1 1,()),a.2.1,())))
 (ab<|Sum.inr (0,(a.1.1,a.1.2.1,()),a.2.1,()))
def kb(x:(List qU)×Int×al)(a:S0×al):Option ((S0×al)⊕(Nat×S0×al)) :=
 ao (aZ a.1.2.2.1<|aH i64 (len x.1) 1)
 (ao (aS 16777216 0)
 ah
 (ag (yg (jK (aH i64 (jV i64 x.2.1 16777215) a.1.2.2.1) 16777216,())) λb=>ag (Loop (gV x) (((0:Int),(0:Int),()),b.1,())) λc=>ao (da c.1 0)
 (ao (nt<|cj 0<|-1)
 (ab<|Sum.inr (1,(b.1,(0:Int),a.1.2.2.1,()),()))
 (ab<|Sum.inl ((a.1.1,a.1.2.1,aH i64 a.1.2.2.1 1,()),())))
 (ao (nt<|cj 0 c.2.1.1)
 (ab<|Sum.inr (1,(b.1,(0:Int),a.1.2.2.1,()),()))
 (ab<|Sum.inl ((a.1.1,a.1.2.1,aH i64 a.1.2.2.1 1,()),())))))
 (ab<|Sum.inr (0,(a.1.1,a.1.2.1,a.1.2.2.1,()),()))
def gL(x:(List qU)×Int×al):Option (Sb×Int×al) :=
 ao (cj 32<|len x.1)
 (ab (([]:aw),(5:Int),()))
 (ag (Loop (kb x) ((([]:aw),(0:Int),(0:Int),()),())) λa=>ao (da a.1 0)
 (ab (([]:aw),(5:Int),()))
 (ab (a.2.1.1,a.2.1.2.1,())))
def ef(x:jl×al):Option (Sb×al) :=
 ab (x.1.1,())
def b3(x:(List jl)×al):Option ((List jl)×al) :=
 bif fits (len x.1) then ab (x.1,()) else ah
def fk(x:pN×jl×al)(a:eY×al×Sb×al):Option (E6⊕E5) :=
 ao (aZ a.1.2.1<|len x.1.2.1)
 (ag (idx x.1.2.1 a.1.2.1) λb=>ag (ef (b,())) λc=>ao (bG c.1 a.2.2.1)
 (ab<|Sum.inr (1,(a.1.2.1,a.1.2.1,()),(),a.2.2.1,()))
 (ab<|Sum.inl ((a.1.1,aH i64 a.1.2.1 1,()),(),a.2.2.1,())))
 (ab<|Sum.inr (0,(a.1.1,a.1.2.1,()),(),a.2.2.1,()))
def qy(b:(al×al)×(List jl)×al)(a:eY×al×jl×al):Option ((eY×al×jl×al)⊕aar) :=
 ao (aZ a.1.2.1<|len b.2.1)
 (ao (within a.1.2.1<|len b.2.1)
 (ag (idx b.2.1 a.1.2.1) λc=>ag (ef (c,())) λd=>ag (ef (a.2.2.1,())) λe=>ao (nt<|fq d.1 e.1)
 (ab<|Sum.inr (1,(a.1.2.1,a.1.2.1,()),(),a.2.2.1,()))
 (ab<|Sum.inl ((a.1.1,aH i64 a.1.2.1 1,()),(),a.2.2.1,())))
 ah)
 (ab<|Sum.inr (0,(a.1.1,a.1.2.1,()),(),a.2.2.1,()))
def qz(b:(al×al)×(List jl)×al)(a:eY×al×jl×al):Option ((eY×al×jl×al)⊕aar) :=
 ao (aZ a.1.2.1<|len b.2.1)
 (ao (within a.1.2.1<|len b.2.1)
 (ag (idx b.2.1 a.1.2.1) λc=>ag (ef (c,())) λd=>ag (ef (a.2.2.1,())) λe=>ao (nt<|fq d.1 e.1)
 (ab<|Sum.inr (1,(a.1.2.1,a.1.2.1,()),(),a.2.2.1,()))
 (ab<|Sum.inl ((a.1.1,aH i64 a.1.2.1 1,()),(),a.2.2.1,())))
 ah)
 (ab<|Sum.inr (0,(a.1.1,a.1.2.1,()),(),a.2.2.1,()))
def iD(x:pN×jl×al):Option (pN×al) :=
 ag (bc (x.2.1.2.1,())) (λe=>ag (bQ (x.2.1.2.2.2.2.1,())) λf=>ag (ef ((x.2.1.1,e.1,x.2.1.2.2.1,x.2.1.2.2.2.1,f.1,x.2.1.2.2.2.2.2),())) λg=>ao (fits<|len x.1.2.1)
 (ag (Loop (fk x) (((0:Int),(0:Int),()),(),g.1,())) λd=>ao (da d.1 0)
 (ag (ao (cj 0<|-1)
 (ag (bk x.1.2.1 ((-1:Int),aH i64 (-1) 1,())) λa=>ab (((),()),a,()))
 (ab (((),()),x.1.2.1,()))) λa=>ag (Loop (qy a) (((0:Int),(0:Int),()),(),(x.2.1.1,e.1,x.2.1.2.2.1,x.2.1.2.2.2.1,f.1,x.2.1.2.2.2.2.2),())) λb=>ao (da b.1 0)
 (ag (bH a.2.1 (((ao (aZ (-1) 0)
 ((len a.2.1,()),())
 (((-1:Int),()),())).1).1,([b.2.2.2.1]:List jl),())) λc=>ab ((x.1.1,c,x.1.2.2),()))
 (ag (bH a.2.1 (((ao (aZ b.2.1.1 0)
 ((len a.2.1,()),())
 ((b.2.1.1,()),())).1).1,([b.2.2.2.1]:List jl),())) λc=>ab ((x.1.1,c,x.1.2.2),())))
 (ag (ao (cj 0 d.2.1.1)
 (ag (bk x.1.2.1 (d.2.1.1,aH i64 d.2.1.1 1,())) λa=>ab (((),()),a,()))
 (ab (((),()),x.1.2.1,()))) λa=>ag (Loop (qz a) (((0:Int),(0:Int),()),(),(x.2.1.1,e.1,x.2.1.2.2.1,x.2.1.2.2.2.1,f.1,x.2.1.2.2.2.2.2),())) λb=>ao (da b.1 0)
 (ag (bH a.2.1 (((ao (aZ (-1) 0)
 ((len a.2.1,()),())
 (((-1:Int),()),())).1).1,([b.2.2.2.1]:List jl),())) λc=>ab ((x.1.1,c,x.1.2.2),()))
 (ag (bH a.2.1 (((ao (aZ b.2.1.1 0)
 ((len a.2.1,()),())
 ((b.2.1.1,()),())).1).1,([b.2.2.2.1]:List jl),())) λc=>ab ((x.1.1,c,x.1.2.2),()))))
 ah)
def qA(x:pN×Sb×(List Sb)×Sb×Int×al):Option (pN×S1×al) :=
 ag (fH (x.2.2.1,())) (λe=>ao (ao (nt<|nt<|aS e.1 0)
 (aZ 64<|len x.2.2.2.1)
 true)
 (ag (jm ((1:Int),())) λa=>ab (x.1,a.1,()))
 (ag (ao (nt<|bG x.2.1 ([]:aw))
 (ag (dG (x.1,x.2.1,())) λa=>ab ((a.2.1,()),(([]:aw),x.2.2.1,a.1,x.2.2.2.1,([]:List dk),()),()))
 (ab (((0:Int),()),(([]:aw),x.2.2.1,([]:aw),x.2.2.2.1,([]:List dk),()),()))) λa=>ag (ao (aS a.1.1 0)
 (ag (gK (x.1,())) λd=>ag (gz (d.1,([]:aw),x.2.2.1,())) λb=>ab ((b.1,()),()))
 (ab ((a.1.1,()),()))) λd=>ag (ao (aS d.1.1 0)
 (ag (gK (x.1,())) λb=>ag (gL (b.1,x.2.2.2.2.1,())) λc=>ab ((c.2.1,()),(c.1,a.2.1.2),()))
 (ab ((d.1.1,()),a.2.1,()))) λb=>ao (nt<|aS b.1.1 0)
 (ag (jm (b.1.1,())) λc=>ab (x.1,c.1,()))
 (ag (iD (x.1,b.2.1,())) λc=>ab (c.1,((0:Int),b.2.1.1,(0:Int),([]:aw),()),()))))
def iN(x:pN×Sb×al):Option (Sb×Int×al) :=
 ag (gK (x.1,())) (λb=>ag (iM (b.1,x.2.1,())) λa=>ab (a.1,a.2.1,()))
def mh(x:pN×Sb×al)(a:eY×Sb×al):Option (GF⊕GC) :=
 ao (aZ a.1.2.1<|len x.1.1)
 (ag (idx x.1.1 a.1.2.1) λb=>ao (bG b.2.2.1 a.2.1)
 (ab<|Sum.inr (1,(a.1.2.1,a.1.2.1,()),a.2.1,()))
 (ab<|Sum.inl ((a.1.1,aH i64 a.1.2.1 1,()),a.2.1,())))
 (ab<|Sum.inr (0,(a.1.1,a.1.2.1,()),a.2.1,()))
def mi(x:pN×Sb×al)(a:eY×al×Sb×al):Option (E6⊕E5) :=
 ao (aZ a.1.2.1<|len x.1.2.1)
 (ag (idx x.1.2.1 a.1.2.1) λb=>ag (ef (b,())) λc=>ao (bG c.1 a.2.2.1)
 (ab<|Sum.inr (1,(a.1.2.1,a.1.2.1,()),(),a.2.2.1,()))
 (ab<|Sum.inl ((a.1.1,aH i64 a.1.2.1 1,()),(),a.2.2.1,())))
 (ab<|Sum.inr (0,(a.1.1,a.1.2.1,()),(),a.2.2.1,()))
def E7(x:pN×Sb×al)(a:eY×al×Sb×al):Option (E6⊕E5) :=
 ao (aZ a.1.2.1<|len x.1.2.1)
 (ag (idx x.1.2.1 a.1.2.1) λb=>ag (ef (b,())) λc=>ao (bG c.1 a.2.2.1)
 (ab<|Sum.inr (1,(a.1.2.1,a.1.2.1,()),(),a.2.2.1,()))
 (ab<|Sum.inl ((a.1.1,aH i64 a.1.2.1 1,()),(),a.2.2.1,())))
 (ab<|Sum.inr (0,(a.1.1,a.1.2.1,()),(),a.2.2.1,()))
def qB(x:pN×Sb×al):Option (pN×S1×al) :=
 ag (iN (x.1,x.2.1,())) (λd=>ao (nt<|aS d.2.1 0)
 (ag (jm (d.2.1,())) λc=>ab (x.1,c.1,()))
 (ag (Loop (mh x) (((0:Int),(0:Int),()),d.1,())) λc=>ao (da c.1 0)
 (ao (cj 0<|-1)
 (ag (jm ((7:Int),())) λb=>ab (x.1,b.1,()))
 (ao (fits<|len x.1.2.1)
 (ag (Loop (mi x) (((0:Int),(0:Int),()),(),c.2.2.1,())) λb=>ao (da b.1 0)
 (ag (ao (cj 0<|-1)
 (ag (bk x.1.2.1 ((-1:Int),aH i64 (-1) 1,())) λa=>ab (((),()),a,()))
 (ab (((),()),x.1.2.1,()))) λa=>ab ((x.1.1,a.2.1,x.1.2.2),((0:Int),c.2.2.1,(0:Int),([]:aw),()),()))
 (ag (ao (cj 0 b.2.1.1)
 (ag (bk x.1.2.1 (b.2.1.1,aH i64 b.2.1.1 1,())) λa=>ab (((),()),a,()))
 (ab (((),()),x.1.2.1,()))) λa=>ab ((x.1.1,a.2.1,x.1.2.2),((0:Int),c.2.2.1,(0:Int),([]:aw),()),())))
 ah))
 (ao (cj 0 c.2.1.1)
 (ag (jm ((7:Int),())) λb=>ab (x.1,b.1,()))
 (ao (fits<|len x.1.2.1)
 (ag (Loop (E7 x) (((0:Int),(0:Int),()),(),c.2.2.1,())) λb=>ao (da b.1 0)
 (ag (ao (cj 0<|-1)
 (ag (bk x.1.2.1 ((-1:Int),aH i64 (-1) 1,())) λa=>ab (((),()),a,()))
 (ab (((),()),x.1.2.1,()))) λa=>ab ((x.1.1,a.2.1,x.1.2.2),((0:Int),c.2.2.1,(0:Int),([]:aw),()),()))
 (ag (ao (cj 0 b.2.1.1)
 (ag (bk x.1.2.1 (b.2.1.1,aH i64 b.2.1.1 1,())) λa=>ab (((),()),a,()))
 (ab (((),()),x.1.2.1,()))) λa=>ab ((x.1.1,a.2.1,x.1.2.2),((0:Int),c.2.2.1,(0:Int),([]:aw),()),())))
 ah))))
def qC(x:pN×Sb×al)(a:E4×jl×al):Option ((E4×jl×al)⊕(Nat×E4×jl×al)) :=
 ao (aZ a.1.2.1<|len x.1.2.1)
 (ag (idx x.1.2.1 a.1.2.1) λb=>ao (bG b.1 x.2.1)
 (ag (bc (b.2.1,())) λc=>ag (bQ (b.2.2.2.2.1,())) λd=>ab (Sum.inr (1,(true,a.1.2.1,()),(b.1,c.1,b.2.2.1,b.2.2.2.1,d.1,b.2.2.2.2.2),())))
 (ab<|Sum.inl ((a.1.1,aH i64 a.1.2.1 1,()),a.2.1,())))
 (ab<|Sum.inr (0,(a.1.1,a.1.2.1,()),a.2.1,()))
def mj(x:pN×Sb×al):Option (jl×Bool×al) :=
 ag (Loop (qC x) ((false,(0:Int),()),(([]:aw),([]:List Sb),([]:aw),([]:aw),([]:List dk),()),())) (λa=>ao (da a.1 0)
 (ab ((([]:aw),([]:List Sb),([]:aw),([]:aw),([]:List dk),()),false,()))
 (ab (a.2.2.1,a.2.1.1,())))
def ke(x:(List dk)×(List dk)×al)(a:E4×al):Option (aaq⊕aap) :=
 ao (ao (aZ a.1.2.1<|len x.1)
 (aZ a.1.2.1<|len x.2.1)
 false)
 (ag (idx x.1 a.1.2.1) λb=>ag (idx x.2.1 a.1.2.1) λc=>ao (nt<|an (bG b.1 c.1)<|an (bG b.2.1 c.2.1)<|an (bG b.2.2.1 c.2.2.1) true)
 (ab<|Sum.inr (1,(false,a.1.2.1,()),()))
 (ab<|Sum.inl ((a.1.1,aH i64 a.1.2.1 1,()),())))
 (ab<|Sum.inr (0,(a.1.1,a.1.2.1,()),()))
def gW(x:(List dk)×(List dk)×al):Option (Bool×al) :=
 ao (nt<|aS (len x.1)<|len x.2.1)
 (ab (false,()))
 (ag (Loop (ke x) ((false,(0:Int),()),())) λa=>ao (da a.1 0)
 (ab (true,()))
 (ab (a.2.1.1,())))
def po(x:(List dk)×al)(a:E4×al):Option (aaq⊕aap) :=
 ao (aZ a.1.2.1<|len x.1)
 (ag (idx x.1 a.1.2.1) λb=>ag (oq (b.1,())) λc=>ao (nt c.1)
 (ab<|Sum.inr (1,(false,a.1.2.1,()),()))
 (ag (idx x.1 a.1.2.1) λd=>ao (aZ 64<|len d.2.2.1)
 (ab<|Sum.inr (1,(false,a.1.2.1,()),()))
 (ag (idx x.1 a.1.2.1) λe=>ag (idx x.1 a.1.2.1) λf=>ag (tn (f.2.2.1,())) λg=>ao (nt<|bG e.2.1 g.1)
 (ab<|Sum.inr (1,(false,a.1.2.1,()),()))
 (ao (aZ 0 a.1.2.1)
 (ag (idx x.1<|db i64 a.1.2.1 1) λh=>ag (idx x.1 a.1.2.1) λi=>ao (nt<|fq h.1 i.1)
 (ab<|Sum.inr (1,(false,a.1.2.1,()),()))
 (ab<|Sum.inl ((a.1.1,aH i64 a.1.2.1 1,()),())))
 (ab<|Sum.inl ((a.1.1,aH i64 a.1.2.1 1,()),()))))))
 (ab<|Sum.inr (0,(a.1.1,a.1.2.1,()),()))
def np(x:(List dk)×al):Option (Bool×al) :=
 ag (Loop (po x) ((false,(0:Int),()),())) (λa=>ao (da a.1 0)
 (ab (cj (len x.1) 4,()))
 (ab (a.2.1.1,())))
end Go.Ge
namespace Go.Ge
variable [Lp]
def S2(a:Tx)(x:Nm):List Tx:=if x.1.take a.length=a then [x.1] else []
def S3(l:List Nm)(a:Tx):List Tx:=l.flatMap (S2 a)
def wO(b:Tx)(f:List Tx):Tx×Int×al:=if b=[]\/6<=b.length then([],3,()) else match f with|[]=>([],3,())|[a]=>(a,0,())|_=>([],9,())
def aX(l:List Nm)(a:Tx):Tx×Int×al:=if ∃x∈l,x.1=a then(a,0,()) else
 match l.find? (λx=>decide (a∈x.2.1)) with|some x=>(x.1,0,())|none=>wO a (S3 l a)
def S4(c:Tx)(f:List Tx):ao (ao (nt<|ao (nt<|bG c ([]:Tx)) (cj (6:Int)<|@len UInt8 c) true) (aS (@len Tx f) (0:Int)) true) (ab (([]:Tx),(3:Int),()))
  (ao (aZ (1:Int)<|@len Tx f) (ab (([]:Tx),(9:Int),()))<|ao (within (0:Int)<|@len Tx f) (ag (@idx Tx f (0:Int)) λ(g:Tx)=>ab (g,(0:Int),())) ah)=ab (wO c f):=by
 have i:bG c ([]:Tx)=decide (c=[]):=rfl;have j:cj (6:Int) (@len UInt8 c)=decide (6<=c.length):=by unfold cj len;apply hH.2;omega
 unfold wO;rw[i,j];by_cases d:c=[]
 .rw[aW<|.inl d,dE d];rfl
 .rw[cL d];by_cases e:6<=c.length
  .rw[aW<|.inr e,dE e];rfl
  .rw[aQ<|by rintro(h|h);exact d h;exact e h,cL e]
   match f with
   | []=>rfl
   | [a]=>rfl
   | a::b::r =>
     have:aZ (1:Int) (@len Tx (a::b::r))=true:=aP (by simp only[len,eU];omega);have k:aS (@len Tx (a::b::r)) (0:Int)=false:=ax (by simp only[len,eU];omega);rw[k,this];rfl
def YF(l:List Nm)(a:Tx)(j:l.length<=1000000)(q:Nat×(Int×Int×al)×Tx×al)(c:q.2.2.1=a) :
  Loop (pn (l,a,()) q) (((),(0:Int),()),([]:List Tx),())=ab (((),(l.length:Int),()),S3 l a,()):=by
 refine rY l (λb i=>(((),i,()),b,())) (S2 a) _ ai (λi x d e f=>?_) ?_
 .have k:((l.take i).flatMap<|S2 a).length<=l.length:=by
   have:=pf (g:=S2 a) (λx=>by unfold S2;split<;>simp) l i;omega
  unfold pn;dsimp only;rw[aq e,ae,au d,aa,c,M9,aa,f];unfold S2;by_cases h:x.1.take a.length=a
  .rw[dE h,aW h,ae];have:fits (plus (@len Tx<|(l.take i).flatMap<|S2 a)<|@len Tx ([x.1]:List Tx))=true:=bo (by show _+1<=_;omega);unfold S2 at this;rw[this];rfl
  .rw[cL h,aQ h];rw[zi];rfl
 .unfold pn;dsimp only;rw[ay,af];rfl
def mN(l:List Nm)(a:Tx)(d:Small l)(e:l.length<=1000000):iM (l,a,())=ab (aX l a):=by
 unfold iM;dsimp only;have mid:∀{f1:(Int×Int×al)×Tx×al->Option (((Int×Int×al)×Tx×al)⊕(Nat×(Int×Int×al)×Tx×al))},f1=iU (l,a,()) ->
   (∃(i:Nat) (x:Nm),l[i]?=ab x/\decide (a∈x.2.1)=true/\(∀(j:Nat) (y:Nm),j<i->l[j]?=ab y->decide (a∈y.2.1)=false)/\Loop f1 (((0:Int),(0:Int),()),a,())=ab (1,((i:Int),(i:Int),()),a,())) \/
   ((∀(i:Nat) (x:Nm),l[i]?=ab x->decide (a∈x.2.1)=false)/\Loop f1 (((0:Int),(0:Int),()),a,())=ab (0,((0:Int),len l,()),a,())):=by
  intro f1 q;subst q;exact iQ (f:=iU (l,a,())) l (λi=>(((0:Int),i,()),a,())) (λ_ x=>decide (a∈x.2.1)) (λi x=>(1,((i:Int),(i:Int),()),a,())) (0,((0:Int),len l,()),a,()) d.1 (λi x b c g=>by
   unfold iU;dsimp only;rw[aq c,ae,au b,aa,xe x.2.1 a (d.2 x<|eT b),aa,eA,g];by_cases h:a∈x.2.1<;>simp[h]) (by unfold iU;dsimp only;rw[ay,af];rfl)
 rcases iQ (f:=pj (l,a,())) l (λi=>(((0:Int),i,()),a,())) (λ_ x=>decide (x.1=a)) (λi x=>(1,((i:Int),(i:Int),()),a,())) (0,((0:Int),len l,()),a,()) d.1 (λi x b c g=>by
  unfold pj;dsimp only;rw[aq c,ae,au b,aa,eA,g];by_cases h:x.1=a<;>simp[bG,h]) (by unfold pj;dsimp only;rw[ay,af];rfl) with ⟨i,x,b,k,p,h⟩|⟨m,h⟩
 .rw[h,aa];dsimp only;rw[show da 1 0=false from rfl,af,bO ai,ae];unfold aX;rw[aW ⟨x,eT b,iy k⟩]
 .rw[h,aa];dsimp only;rw[show da 0 0=true from rfl,ae,show cj (0:Int) (-1)=false from rfl,af];have n:¬∃x∈l,x.1=a:=by
   rintro⟨x,b,r⟩;obtain⟨i,c⟩:=bz.1 b;have:=m i x c;simp[r] at this
  unfold aX;rw[aQ n];rcases mid (f1:=iU (l,a,())) rfl with ⟨i,x,b,k,p,h⟩|⟨m,h⟩
  .rw[h,aa];dsimp only;rw[show da 1 0=false from rfl,af,bO ai,ae,au b,aa];have:l.find? (λx=>decide (a∈x.2.1))=ab x:=by
    rw[ads];refine⟨k,i,aG b,?_,λj o=>?_⟩
    .have:=ia (aG b);rw[b] at this;exact(aR this).symm
    .have s:=aG b;have:=p j l[j] o (ia ai);simpa using this
   rw[this]
  .rw[h,aa];dsimp only;rw[show da 0 0=true from rfl,ae,af,YF l a e _ rfl,aa];have:l.find? (λx=>decide (a∈x.2.1))=none:=by
    rw[T6];intro x b;obtain⟨i,c⟩:=bz.1 b;have:=m i x c;simpa using this
   rw[this];exact S4 a (S3 l a)
set_option maxRecDepth 100000
abbrev cF:=(Sb×Int×Int×Sb×Sb×al)
abbrev aas:=((Int×Int×al×al)×al×Sb×(List cF)×al)
abbrev afr:=(aw×(Int×(Int×(aw×(aw×al)))))
abbrev Bp:=(Int×Int×al)
def bb(l:List afr)(x:(Int×((List afr)×al))):Option (List afr):=uU l x.1 x.2.1
def uj(x:Sb×al):Option (Bool×al) :=
 ag (p6 (x.1,())) (λa=>ag (gy (x.1,())) λb=>ag (r8 (b.2.1,())) λc=>ab (ao (ao (ao (ao (aS a.2.1 0)
 (bG a.1 x.1)
 false)
 (nt<|bG x.1 ([]:aw))
 false)
 (ao (cj (len x.1) 92)
 (cj (len b.2.1) 28)
 false)
 false)
 (aS c.1 0)
 false,()))
def zG(x:cF×al):Option (Bool×al) :=
 ag (uj (x.1.1,())) (λb=>ao (ao (nt<|ao (nt<|nt b.1)
 (aZ x.1.2.2.1 0)
 true)
 (aZ 4095 x.1.2.2.1)
 true)
 (ab (false,()))
 (ao (aS x.1.2.1 1)
 (ab (ao (bG x.1.2.2.2.2.1 ([]:aw))
 (cj (len x.1.2.2.2.1) 8192)
 false,()))
 (ao (aS x.1.2.1 2)
 (ab (ao (bG x.1.2.2.2.2.1 ([]:aw))
 (bG x.1.2.2.2.1 ([]:aw))
 false,()))
 (ao (aS x.1.2.1 3)
 (ag (ao (ao (ao (bG x.1.2.2.2.1 ([]:aw))
 (nt<|bG x.1.2.2.2.2.1 ([]:aw))
 false)
 (cj (len x.1.2.2.2.2.1) 100)
 false)
 (ag (dx (x.1.2.2.2.2.1,(0:Int),())) λa=>ab (aZ a.1 0))
 (ab false)) λa=>ab (a,()))
 (ab (false,()))))))
def mO(x:cF×Sb×al):Option (Int×al) :=
 ag (hM (x.1.1,x.2.1,())) (λa=>ab (a.1,()))
def jP(x:(List cF)×Sb×al)(a:Bp×al):Option ((Bp×al)⊕(Bp×al)) :=
 dn (ao (aZ a.1.1 a.1.2.1)
 (ao (aZ 1 0)
 ah
 (ag (idx x.1<|kF i64<|mE IntKind.u64 (kF IntKind.u64<|aH i64 a.1.1 a.1.2.1) 1) λc=>ag (mO (c,x.2.1,())) λb=>ab (Sum.inl ((((ao (aZ b.1 0)
 ((aH i64 (kF i64<|mE IntKind.u64 (kF IntKind.u64<|aH i64 a.1.1 a.1.2.1) 1) 1,a.1.2.1,()),())
 ((a.1.1,kF i64<|mE IntKind.u64 (kF IntKind.u64<|aH i64 a.1.1 a.1.2.1) 1,()),())).1).1,(((ao (aZ b.1 0)
 ((aH i64 (kF i64<|mE IntKind.u64 (kF IntKind.u64<|aH i64 a.1.1 a.1.2.1) 1) 1,a.1.2.1,()),())
 ((a.1.1,kF i64<|mE IntKind.u64 (kF IntKind.u64<|aH i64 a.1.1 a.1.2.1) 1,()),())).1).2).1,()),()))))
 (ab<|Sum.inr (0,(a.1.1,a.1.2.1,()),())))
def eM(x:(List cF)×Sb×al):Option (Int×Bool×al) :=
 ag (Loop (jP x) (((0:Int),len x.1,()),())) (λa=>ao (aZ a.1.1<|len x.1)
 (ag (idx x.1 a.1.1) λb=>ag (mO (b,x.2.1,())) λc=>ab (a.1.1,aS c.1 0,()))
 (ab (a.1.1,false,())))
def ow(x:(List cF)×Sb×al):Option (Int×al) :=
 ao (bG x.2.1 ([]:aw))
 (ab ((0:Int),()))
 (ag (eM (x.1,x.2.1,())) λa=>ao (nt a.2.1)
 (ab ((3:Int),()))
 (ag (idx x.1 a.1) λb=>ao (nt<|aS b.2.1 2)
 (ab ((12:Int),()))
 (ab ((0:Int),()))))
def qD(x:(List cF)×al)(a:Bp×al):Option ((Bp×al)⊕(Nat×Bp×al)) :=
 ao (aZ a.1.2.1<|len x.1)
 (ag (idx x.1 a.1.2.1) λb=>ag (gy (b.1,())) λd=>ag (zG (b,())) λe=>ao (nt e.1)
 (ab<|Sum.inr (1,((1:Int),a.1.2.1,()),()))
 (ao (aZ 0 a.1.2.1)
 (ag (idx x.1<|db i64 a.1.2.1 1) λc=>ag (hM (c.1,b.1,())) λf=>ao (cj 0 f.1)
 (ab<|Sum.inr (1,((1:Int),a.1.2.1,()),()))
 (ao (inside 0 a.1.2.1<|len x.1)
 (ag (ow (sub x.1 (0:Int)<|minus a.1.2.1 0,d.1,())) λg=>ao (nt<|aS g.1 0)
 (ab<|Sum.inr (1,((1:Int),a.1.2.1,()),()))
 (ab<|Sum.inl ((a.1.1,aH i64 a.1.2.1 1,()),())))
 ah))
 (ao (inside 0 a.1.2.1<|len x.1)
 (ag (ow (sub x.1 (0:Int)<|minus a.1.2.1 0,d.1,())) λc=>ao (nt<|aS c.1 0)
 (ab<|Sum.inr (1,((1:Int),a.1.2.1,()),()))
 (ab<|Sum.inl ((a.1.1,aH i64 a.1.2.1 1,()),())))
 ah)))
 (ab<|Sum.inr (0,(a.1.1,a.1.2.1,()),()))
def eN(x:(List cF)×al):Option (Int×al) :=
 ao (aZ 64<|len x.1)
 (ab ((1:Int),()))
 (ag (Loop (qD x) (((0:Int),(0:Int),()),())) λa=>ao (da a.1 0)
 (ab ((0:Int),()))
 (ab (a.2.1.1,())))
def nC(x:(List cF)×al):Option ((List cF)×al) :=
 bif fits (len x.1) then ab (x.1,()) else ah
def nq(x:(List cF)×cF×al)(a:Bp×al×Sb×al):Option ((Bp×al×Sb×al)⊕(Nat×Bp×al×Sb×al)) :=
 ao (aZ a.1.2.1<|len x.1)
 (ao (within a.1.2.1<|len x.1)
 (ag (idx x.1 a.1.2.1) λc=>ag (ao (nt<|bG c.1 a.2.2.1)
 (ag (dF (c.1,a.2.2.1,())) λb=>ab b.1)
 (ab true)) λb=>ao b
 (ab<|Sum.inr (1,(a.1.2.1,a.1.2.1,()),(),a.2.2.1,()))
 (ab<|Sum.inl ((a.1.1,aH i64 a.1.2.1 1,()),(),a.2.2.1,())))
 ah)
 (ab<|Sum.inr (0,(a.1.1,a.1.2.1,()),(),a.2.2.1,()))
def Pv(a:(Int×Int×al×al)×al×Sb×(List cF)×al):Option (aas⊕aas) :=
 dn (ao (aZ a.1.2.1<|len a.2.2.2.1)
 (ao (within a.1.2.1<|len a.2.2.2.1)
 (ag (idx a.2.2.2.1 a.1.2.1) λb=>ag (ao (nt<|bG b.1 a.2.2.1)
 (ag (dF (b.1,a.2.2.1,())) λc=>ab c.1)
 (ab true)) λc=>ag (ao (nt c)
 (ao (within a.1.1<|len a.2.2.2.1)
 (ag (idx a.2.2.2.1 a.1.1) λd=>ag (idx a.2.2.2.1 a.1.1) λe=>ag (idx a.2.2.2.1 a.1.1) λf=>ab ((aH i64 a.1.1 1,(),()),lS a.2.2.2.1 a.1.1 b,()))
 ah)
 (ab ((a.1.1,(),()),a.2.2.2.1,()))) λd=>ab (Sum.inl ((d.1.1,aH i64 a.1.2.1 1,(),()),(),a.2.2.1,d.2.1,())))
 ah)
 (ab<|Sum.inr (0,(a.1.1,a.1.2.1,(),()),(),a.2.2.1,a.2.2.2.1,())))
def p8(a:(Int×Int×al×al)×al×Sb×(List cF)×al):Option (aas⊕aas) :=
 dn (ao (aZ a.1.2.1<|len a.2.2.2.1)
 (ao (within a.1.2.1<|len a.2.2.2.1)
 (ag (idx a.2.2.2.1 a.1.2.1) λb=>ag (ao (nt<|bG b.1 a.2.2.1)
 (ag (dF (b.1,a.2.2.1,())) λc=>ab c.1)
 (ab true)) λc=>ag (ao (nt c)
 (ao (within a.1.1<|len a.2.2.2.1)
 (ag (idx a.2.2.2.1 a.1.1) λd=>ag (idx a.2.2.2.1 a.1.1) λe=>ag (idx a.2.2.2.1 a.1.1) λf=>ab ((aH i64 a.1.1 1,(),()),lS a.2.2.2.1 a.1.1 b,()))
 ah)
 (ab ((a.1.1,(),()),a.2.2.2.1,()))) λd=>ab (Sum.inl ((d.1.1,aH i64 a.1.2.1 1,(),()),(),a.2.2.1,d.2.1,())))
 ah)
 (ab<|Sum.inr (0,(a.1.1,a.1.2.1,(),()),(),a.2.2.1,a.2.2.2.1,())))
def tp(x:(List cF)×cF×al):Option ((List cF)×Int×al) :=
 ag (eN (x.1,())) (λj=>ag (ao (nt<|nt<|aS j.1 0)
 (ag (zG (x.2.1,())) λf=>ab (nt f.1))
 (ab true)) λf=>ao f
 (ab (([]:List cF),(1:Int),()))
 (ag (gy (x.2.1.1,())) λk=>ag (ow (x.1,k.1,())) λh=>ao (nt<|aS h.1 0)
 (ab (([]:List cF),h.1,()))
 (ag (eM (x.1,x.2.1.1,())) λd=>ag (ao d.2.1
 (ag (idx x.1 d.1) λg=>ab (aS g.2.1 2))
 (ab false)) λg=>ao (ao g
 (aS x.2.1.2.1 2)
 false)
 (ao (fits<|len x.1)
 (ao (within d.1<|len x.1)
 (ag (idx x.1 d.1) λi=>ag (idx x.1 d.1) λc=>ag (idx x.1 d.1) λa=>ab (lS x.1 d.1 x.2.1,(0:Int),()))
 ah)
 ah)
 (ag (eN (x.1,())) λi=>ao (nt<|aS i.1 0)
 (ao (cj 64<|len ([]:List cF))
 (ab (([]:List cF),(5:Int),()))
 (ag (eM (([]:List cF),x.2.1.1,())) λc=>ah))
 (ao (fits<|len x.1)
 (ag (Loop (nq x) (((0:Int),(0:Int),()),(),x.2.1.1,())) λc=>ao (da c.1 0)
 (ao (aS (-1)<|-1)
 (ao (cj 64<|len x.1)
 (ab (([]:List cF),(5:Int),()))
 (ag (eM (x.1,x.2.1.1,())) λa=>ag (bb x.1 (a.1,([x.2.1]:List cF),())) λb=>ab (b,(0:Int),())))
 (ag (Loop (Pv) (((-1:Int),aH i64 (-1) 1,(),()),(),c.2.2.2.1,x.1,())) λa=>ao (inside a.1.1 (len a.2.2.2.1)<|len a.2.2.2.1)
 (ao (inside 0 a.1.1<|len<|over a.2.2.2.1 a.1.1<|kn (minus (len a.2.2.2.1) a.1.1) (([]:aw),(0:Int),(0:Int),([]:aw),([]:aw),()))
 (ao (cj 64<|minus a.1.1 0)
 (ab (([]:List cF),(5:Int),()))
 (ag (eM (sub (over a.2.2.2.1 a.1.1<|kn (minus (len a.2.2.2.1) a.1.1) (([]:aw),(0:Int),(0:Int),([]:aw),([]:aw),())) (0:Int)<|minus a.1.1 0,x.2.1.1,())) λb=>ag (bb (sub (over a.2.2.2.1 a.1.1<|kn (minus (len a.2.2.2.1) a.1.1) (([]:aw),(0:Int),(0:Int),([]:aw),([]:aw),())) (0:Int)<|minus a.1.1 0) (b.1,([x.2.1]:List cF),())) λe=>ab (e,(0:Int),())))
 ah)
 ah))
 (ao (aS c.2.1.1<|-1)
 (ao (cj 64<|len x.1)
 (ab (([]:List cF),(5:Int),()))
 (ag (eM (x.1,x.2.1.1,())) λa=>ag (bb x.1 (a.1,([x.2.1]:List cF),())) λb=>ab (b,(0:Int),())))
 (ag (Loop (p8) ((c.2.1.1,aH i64 c.2.1.1 1,(),()),(),c.2.2.2.1,x.1,())) λa=>ao (inside a.1.1 (len a.2.2.2.1)<|len a.2.2.2.1)
 (ao (inside 0 a.1.1<|len<|over a.2.2.2.1 a.1.1<|kn (minus (len a.2.2.2.1) a.1.1) (([]:aw),(0:Int),(0:Int),([]:aw),([]:aw),()))
 (ao (cj 64<|minus a.1.1 0)
 (ab (([]:List cF),(5:Int),()))
 (ag (eM (sub (over a.2.2.2.1 a.1.1<|kn (minus (len a.2.2.2.1) a.1.1) (([]:aw),(0:Int),(0:Int),([]:aw),([]:aw),())) (0:Int)<|minus a.1.1 0,x.2.1.1,())) λb=>ag (bb (sub (over a.2.2.2.1 a.1.1<|kn (minus (len a.2.2.2.1) a.1.1) (([]:aw),(0:Int),(0:Int),([]:aw),([]:aw),())) (0:Int)<|minus a.1.1 0) (b.1,([x.2.1]:List cF),())) λe=>ab (e,(0:Int),())))
 ah)
 ah)))
 ah)))))
def yh(x:(List cF)×Sb×al):Option (cF×Bool×al) :=
 ag (eN (x.1,())) (λb=>ao (nt<|aS b.1 0)
 (ab ((([]:aw),(0:Int),(0:Int),([]:aw),([]:aw),()),false,()))
 (ag (eM (x.1,x.2.1,())) λa=>ao (nt a.2.1)
 (ab ((([]:aw),(0:Int),(0:Int),([]:aw),([]:aw),()),false,()))
 (ag (idx x.1 a.1) λc=>ab (c,true,()))))
def nN(x:Sb×al)(a:(Bool×Int×al)×al):Option (((Bool×Int×al)×al)⊕(Nat×(Bool×Int×al)×al)) :=
 ao (aZ a.1.2.1<|len x.1)
 (ag (idx x.1 a.1.2.1) λb=>ao (aS (u8 b) 0)
 (ab<|Sum.inr (1,(false,a.1.2.1,()),()))
 (ab<|Sum.inl ((a.1.1,aH i64 a.1.2.1 1,()),())))
 (ab<|Sum.inr (0,(a.1.1,a.1.2.1,()),()))
def si(x:Sb×al):Option (Bool×al) :=
 ag (Loop (nN x) ((false,(0:Int),()),())) (λa=>ao (da a.1 0)
 (ab (ao (cj 1<|len x.1)
 (cj (len x.1) 100)
 false,()))
 (ab (a.2.1.1,())))
def lZ(x:cF×al):Option (Bool×al) :=
 ag (kx (x.1.1,())) (λb=>ag (sa (b.2.1,())) λc=>ag (ao (nt<|bG x.1.1 ([]:aw))
 (ag (xd (x.1.1,())) λa=>ab a.1)
 (ab false)) λa=>ao (aS x.1.2.1 1)
 (ab (ao (ao (ao (ao (ao (ao (ao a
 (cj (len x.1.1) 92)
 false)
 (cj (len b.2.1) 28)
 false)
 (aS c.1 0)
 false)
 (cj 0 x.1.2.2.1)
 false)
 (cj x.1.2.2.1 4095)
 false)
 (bG x.1.2.2.2.2.1 ([]:aw))
 false)
 (cj (len x.1.2.2.2.1) 8192)
 false,()))
 (ao (aS x.1.2.1 2)
 (ab (ao (ao (ao (ao (ao (ao (ao a
 (cj (len x.1.1) 92)
 false)
 (cj (len b.2.1) 28)
 false)
 (aS c.1 0)
 false)
 (cj 0 x.1.2.2.1)
 false)
 (cj x.1.2.2.1 4095)
 false)
 (bG x.1.2.2.2.2.1 ([]:aw))
 false)
 (bG x.1.2.2.2.1 ([]:aw))
 false,()))
 (ao (aS x.1.2.1 3)
 (ag (ao (ao (ao (ao (ao (ao (ao a
 (cj (len x.1.1) 92)
 false)
 (cj (len b.2.1) 28)
 false)
 (aS c.1 0)
 false)
 (cj 0 x.1.2.2.1)
 false)
 (cj x.1.2.2.1 4095)
 false)
 (bG x.1.2.2.2.1 ([]:aw))
 false)
 (ag (si (x.1.2.2.2.2.1,())) λd=>ab d.1)
 (ab false)) λd=>ab (d,()))
 (ab (false,())))))
def qE(x:(List cF)×Sb×al)(a:Bp×al):Option ((Bp×al)⊕(Nat×Bp×al)) :=
 ao (aZ a.1.2.1<|len x.1)
 (ag (idx x.1 a.1.2.1) λb=>ao (bG b.1 x.2.1)
 (ab<|Sum.inr (1,(a.1.2.1,a.1.2.1,()),()))
 (ab<|Sum.inl ((a.1.1,aH i64 a.1.2.1 1,()),())))
 (ab<|Sum.inr (0,(a.1.1,a.1.2.1,()),()))
def iE(x:(List cF)×Sb×al):Option (Int×al) :=
 ag (Loop (qE x) (((0:Int),(0:Int),()),())) (λa=>ao (da a.1 0)
 (ab ((-1:Int),()))
 (ab (a.2.1.1,())))
def ox(x:(List cF)×Sb×al):Option (Bool×al) :=
 ag (iE (x.1,x.2.1,())) (λb=>ag (ao (nt<|bG x.2.1 ([]:aw))
 (ag (ao (cj 0 b.1)
 (ag (idx x.1 b.1) λa=>ab (aS a.2.1 2))
 (ab false)) λa=>ab a)
 (ab true)) λa=>ab (a,()))
def uk(x:(List cF)×al)(a:(Bool×Int×al)×al):Option (((Bool×Int×al)×al)⊕(Nat×(Bool×Int×al)×al)) :=
 ao (aZ a.1.2.1<|len x.1)
 (ag (idx x.1 a.1.2.1) λb=>ag (kx (b.1,())) λc=>ag (idx x.1 a.1.2.1) λd=>ag (lZ (d,())) λe=>ao (nt e.1)
 (ab<|Sum.inr (1,(false,a.1.2.1,()),()))
 (ag (ox (x.1,c.1,())) λf=>ao (nt f.1)
 (ab<|Sum.inr (1,(false,a.1.2.1,()),()))
 (ao (aZ 0 a.1.2.1)
 (ag (idx x.1<|db i64 a.1.2.1 1) λg=>ag (idx x.1 a.1.2.1) λh=>ag (mJ (g.1,h.1,())) λi=>ao (cj 0 i.1)
 (ab<|Sum.inr (1,(false,a.1.2.1,()),()))
 (ab<|Sum.inl ((a.1.1,aH i64 a.1.2.1 1,()),())))
 (ab<|Sum.inl ((a.1.1,aH i64 a.1.2.1 1,()),())))))
 (ab<|Sum.inr (0,(a.1.1,a.1.2.1,()),()))
def mm(x:(List cF)×al):Option (Bool×al) :=
 ao (aZ 64<|len x.1)
 (ab (false,()))
 (ag (Loop (uk x) ((false,(0:Int),()),())) λa=>ao (da a.1 0)
 (ab (true,()))
 (ab (a.2.1.1,())))
def jn(x:(List cF)×Sb×Bool×al)(a:(al×Int×al)×(List cF)×al):Option (((al×Int×al)×(List cF)×al)⊕((al×Int×al)×(List cF)×al)) :=
 dn (ao (aZ a.1.2.1<|len x.1)
 (ag (idx x.1 a.1.2.1) λd=>ag (ud (d.1,x.2.1,())) λe=>ag (ao (nt e.1)
 (ag (ao (nt<|nt x.2.2.1)
 (ag (idx x.1 a.1.2.1) λb=>ab (nt<|bG b.1 x.2.1))
 (ab true)) λb=>ab b)
 (ab false)) λb=>ag (ao b
 (ag (idx x.1 a.1.2.1) λc=>ao (fits<|plus (len a.2.1)<|len ([c]:List cF))
 (ab (((),()),app a.2.1 ([c]:List cF),()))
 ah)
 (ab (((),()),a.2.1,()))) λc=>ab (Sum.inl (((),aH i64 a.1.2.1 1,()),c.2.1,())))
 (ab<|Sum.inr (0,((),a.1.2.1,()),a.2.1,())))
def jQ(x:(List cF)×Sb×Bool×al):Option ((List cF)×al) :=
 ag (Loop (jn x) (((),(0:Int),()),([]:List cF),())) (λa=>ab (a.2.1,()))
def lF(x:(List cF)×cF×al)(d:((List cF)×al)×al)(a:(Int×al)×al):Option (((Int×al)×al)⊕((Int×al)×al)) :=
 dn (ao (aZ a.1.1<|len d.1.1)
 (ag (idx d.1.1 a.1.1) λb=>ag (mJ (b.1,x.2.1.1,())) λc=>ao (aZ c.1 0)
 (ab<|Sum.inl ((aH i64 a.1.1 1,()),()))
 (ab<|Sum.inr (0,(a.1.1,()),())))
 (ab<|Sum.inr (0,(a.1.1,()),())))
def oz(x:(List cF)×cF×al):Option ((List cF)×Int×al) :=
 ag (mm (x.1,())) (λh=>ag (ao (nt<|nt h.1)
 (ag (lZ (x.2.1,())) λd=>ab (nt d.1))
 (ab true)) λd=>ao d
 (ab (([]:List cF),(1:Int),()))
 (ag (kx (x.2.1.1,())) λe=>ag (ao (nt<|bG e.1 ([]:aw))
 (ag (iE (x.1,e.1,())) λf=>ab (aZ f.1 0))
 (ab false)) λf=>ao f
 (ab (([]:List cF),(3:Int),()))
 (ag (ox (x.1,e.1,())) λi=>ao (nt i.1)
 (ab (([]:List cF),(12:Int),()))
 (ag (iE (x.1,x.2.1.1,())) λb=>ag (ao (cj 0 b.1)
 (ag (idx x.1 b.1) λg=>ab (aS g.2.1 2))
 (ab false)) λg=>ag (ao (ao g
 (aS x.2.1.2.1 2)
 false)
 (ao (inside 0 b.1<|len x.1)
 (ao (fits<|plus (len ([]:List cF))<|len<|sub x.1 (0:Int)<|minus b.1 0)
 (ao (inside (aH i64 b.1 1) (len x.1)<|len x.1)
 (ao (fits<|plus (len<|app ([]:List cF)<|sub x.1 (0:Int)<|minus b.1 0)<|len<|sub x.1 (aH i64 b.1 1)<|minus (len x.1)<|aH i64 b.1 1)
 (ab ((app (app ([]:List cF)<|sub x.1 (0:Int)<|minus b.1 0)<|sub x.1 (aH i64 b.1 1)<|minus (len x.1)<|aH i64 b.1 1,()),()))
 ah)
 ah)
 ah)
 ah)
 (ag (ao (cj 0 b.1)
 (ag (jQ (x.1,x.2.1.1,true,())) λa=>ab ((a.1,()),()))
 (ab ((x.1,()),()))) λa=>ab ((a.1.1,()),()))) λa=>ao (cj 64<|len a.1.1)
 (ab (([]:List cF),(5:Int),()))
 (ag (Loop (lF x a) (((0:Int),()),())) λc=>ao (inside 0 c.1.1<|len a.1.1)
 (ao (fits<|plus (len ([]:List cF))<|len<|sub a.1.1 (0:Int)<|minus c.1.1 0)
 (ao (fits<|plus (len<|app ([]:List cF)<|sub a.1.1 (0:Int)<|minus c.1.1 0)<|len ([x.2.1]:List cF))
 (ao (inside c.1.1 (len a.1.1)<|len a.1.1)
 (ao (fits<|plus (len<|app (app ([]:List cF)<|sub a.1.1 (0:Int)<|minus c.1.1 0) ([x.2.1]:List cF))<|len<|sub a.1.1 c.1.1<|minus (len a.1.1) c.1.1)
 (ab (app (app (app ([]:List cF)<|sub a.1.1 (0:Int)<|minus c.1.1 0) ([x.2.1]:List cF))<|sub a.1.1 c.1.1<|minus (len a.1.1) c.1.1,(0:Int),()))
 ah)
 ah)
 ah)
 ah)
 ah)))))
end Go.Ge
namespace Go.Ge
variable [Lp]
set_option maxRecDepth 100000
abbrev vI:=(List<|Sb×Int×Int×Sb×Sb×al)
abbrev Jw:=((Int×Int×al×al)×al×Sb×vI×al)
abbrev VT:=(Sb×Int×Int×Sb×Sb×al)
def iV(x:vI×Sb×al)(a:(Int×Int×al)×al×Sb×al):Option (((Int×Int×al)×al×Sb×al)⊕(Nat×(Int×Int×al)×al×Sb×al)) :=
 ao (aZ a.1.2.1<|len x.1)
 (ao (within a.1.2.1<|len x.1)
 (ag (idx x.1 a.1.2.1) λc=>ag (ao (nt<|bG c.1 a.2.2.1)
 (ag (dF (c.1,a.2.2.1,())) λb=>ab b.1)
 (ab true)) λb=>ao b
 (ab<|Sum.inr (1,(a.1.2.1,a.1.2.1,()),(),a.2.2.1,()))
 (ab<|Sum.inl ((a.1.1,aH i64 a.1.2.1 1,()),(),a.2.2.1,())))
 ah)
 (ab<|Sum.inr (0,(a.1.1,a.1.2.1,()),(),a.2.2.1,()))
def H7(a:(Int×Int×al×al)×al×Sb×vI×al):Option (Jw⊕Jw) :=
 dn (ao (aZ a.1.2.1<|len a.2.2.2.1)
 (ao (within a.1.2.1<|len a.2.2.2.1)
 (ag (idx a.2.2.2.1 a.1.2.1) λb=>ag (ao (nt<|bG b.1 a.2.2.1)
 (ag (dF (b.1,a.2.2.1,())) λc=>ab c.1)
 (ab true)) λc=>ag (ao (nt c)
 (ao (within a.1.1<|len a.2.2.2.1)
 (ag (idx a.2.2.2.1 a.1.1) λd=>ag (idx a.2.2.2.1 a.1.1) λe=>ag (idx a.2.2.2.1 a.1.1) λf=>ab ((aH i64 a.1.1 1,(),()),lS a.2.2.2.1 a.1.1 b,()))
 ah)
 (ab ((a.1.1,(),()),a.2.2.2.1,()))) λd=>ab (Sum.inl ((d.1.1,aH i64 a.1.2.1 1,(),()),(),a.2.2.1,d.2.1,())))
 ah)
 (ab<|Sum.inr (0,(a.1.1,a.1.2.1,(),()),(),a.2.2.1,a.2.2.2.1,())))
def lG(a:(Int×Int×al×al)×al×Sb×vI×al):Option (Jw⊕Jw) :=
 dn (ao (aZ a.1.2.1<|len a.2.2.2.1)
 (ao (within a.1.2.1<|len a.2.2.2.1)
 (ag (idx a.2.2.2.1 a.1.2.1) λb=>ag (ao (nt<|bG b.1 a.2.2.1)
 (ag (dF (b.1,a.2.2.1,())) λc=>ab c.1)
 (ab true)) λc=>ag (ao (nt c)
 (ao (within a.1.1<|len a.2.2.2.1)
 (ag (idx a.2.2.2.1 a.1.1) λd=>ag (idx a.2.2.2.1 a.1.1) λe=>ag (idx a.2.2.2.1 a.1.1) λf=>ab ((aH i64 a.1.1 1,(),()),lS a.2.2.2.1 a.1.1 b,()))
 ah)
 (ab ((a.1.1,(),()),a.2.2.2.1,()))) λd=>ab (Sum.inl ((d.1.1,aH i64 a.1.2.1 1,(),()),(),a.2.2.1,d.2.1,())))
 ah)
 (ab<|Sum.inr (0,(a.1.1,a.1.2.1,(),()),(),a.2.2.1,a.2.2.2.1,())))
def uo(x:vI×Sb×al):Option (vI×al) :=
 ag (eN (x.1,())) (λc=>ao (nt<|aS c.1 0)
 (ab (([]:List VT),()))
 (ao (fits<|len x.1)
 (ag (Loop (iV x) (((0:Int),(0:Int),()),(),x.2.1,())) λb=>ao (da b.1 0)
 (ao (aS (-1)<|-1)
 (ab (x.1,()))
 (ag (Loop (H7) (((-1:Int),aH i64 (-1) 1,(),()),(),b.2.2.2.1,x.1,())) λa=>ao (inside a.1.1 (len a.2.2.2.1)<|len a.2.2.2.1)
 (ao (inside 0 a.1.1<|len<|over a.2.2.2.1 a.1.1<|kn (minus (len a.2.2.2.1) a.1.1) (([]:aw),(0:Int),(0:Int),([]:aw),([]:aw),()))
 (ab (sub (over a.2.2.2.1 a.1.1<|kn (minus (len a.2.2.2.1) a.1.1) (([]:aw),(0:Int),(0:Int),([]:aw),([]:aw),())) (0:Int)<|minus a.1.1 0,()))
 ah)
 ah))
 (ao (aS b.2.1.1<|-1)
 (ab (x.1,()))
 (ag (Loop (lG) ((b.2.1.1,aH i64 b.2.1.1 1,(),()),(),b.2.2.2.1,x.1,())) λa=>ao (inside a.1.1 (len a.2.2.2.1)<|len a.2.2.2.1)
 (ao (inside 0 a.1.1<|len<|over a.2.2.2.1 a.1.1<|kn (minus (len a.2.2.2.1) a.1.1) (([]:aw),(0:Int),(0:Int),([]:aw),([]:aw),()))
 (ab (sub (over a.2.2.2.1 a.1.1<|kn (minus (len a.2.2.2.1) a.1.1) (([]:aw),(0:Int),(0:Int),([]:aw),([]:aw),())) (0:Int)<|minus a.1.1 0,()))
 ah)
 ah)))
 ah))
def wa(x:vI×Sb×al):Option (VT×Bool×al) :=
 ag (iE (x.1,x.2.1,())) (λa=>ag (mm (x.1,())) λb=>ao (ao (nt<|nt b.1)
 (aZ a.1 0)
 true)
 (ab ((([]:aw),(0:Int),(0:Int),([]:aw),([]:aw),()),false,()))
 (ag (idx x.1 a.1) λc=>ab (c,true,())))
def sj(x:vI×Sb×al):Option (vI×al) :=
 ag (mm (x.1,())) (λa=>ao (nt a.1)
 (ab (([]:List VT),()))
 (ag (jQ (x.1,x.2.1,true,())) λb=>ab (b.1,())))
def jR(x:vI×Sb×al)(a:(Int×Int×al)×al×Sb×al):Option (((Int×Int×al)×al×Sb×al)⊕(Nat×(Int×Int×al)×al×Sb×al)) :=
 ao (aZ a.1.2.1<|len x.1)
 (ao (within a.1.2.1<|len x.1)
 (ag (idx x.1 a.1.2.1) λb=>ag (dF (b.1,a.2.2.1,())) λc=>ao c.1
 (ab<|Sum.inr (1,(a.1.2.1,a.1.2.1,()),(),a.2.2.1,()))
 (ab<|Sum.inl ((a.1.1,aH i64 a.1.2.1 1,()),(),a.2.2.1,())))
 ah)
 (ab<|Sum.inr (0,(a.1.1,a.1.2.1,()),(),a.2.2.1,()))
def Ko(a:(Int×Int×al×al)×al×Sb×vI×al):Option (Jw⊕Jw) :=
 dn (ao (aZ a.1.2.1<|len a.2.2.2.1)
 (ao (within a.1.2.1<|len a.2.2.2.1)
 (ag (idx a.2.2.2.1 a.1.2.1) λc=>ag (dF (c.1,a.2.2.1,())) λd=>ag (ao (nt d.1)
 (ao (within a.1.1<|len a.2.2.2.1)
 (ag (idx a.2.2.2.1 a.1.1) λb=>ag (idx a.2.2.2.1 a.1.1) λe=>ag (idx a.2.2.2.1 a.1.1) λf=>ab ((aH i64 a.1.1 1,(),()),lS a.2.2.2.1 a.1.1 c,()))
 ah)
 (ab ((a.1.1,(),()),a.2.2.2.1,()))) λb=>ab (Sum.inl ((b.1.1,aH i64 a.1.2.1 1,(),()),(),a.2.2.1,b.2.1,())))
 ah)
 (ab<|Sum.inr (0,(a.1.1,a.1.2.1,(),()),(),a.2.2.1,a.2.2.2.1,())))
def mP(a:(Int×Int×al×al)×al×Sb×vI×al):Option (Jw⊕Jw) :=
 dn (ao (aZ a.1.2.1<|len a.2.2.2.1)
 (ao (within a.1.2.1<|len a.2.2.2.1)
 (ag (idx a.2.2.2.1 a.1.2.1) λc=>ag (dF (c.1,a.2.2.1,())) λd=>ag (ao (nt d.1)
 (ao (within a.1.1<|len a.2.2.2.1)
 (ag (idx a.2.2.2.1 a.1.1) λb=>ag (idx a.2.2.2.1 a.1.1) λe=>ag (idx a.2.2.2.1 a.1.1) λf=>ab ((aH i64 a.1.1 1,(),()),lS a.2.2.2.1 a.1.1 c,()))
 ah)
 (ab ((a.1.1,(),()),a.2.2.2.1,()))) λb=>ab (Sum.inl ((b.1.1,aH i64 a.1.2.1 1,(),()),(),a.2.2.1,b.2.1,())))
 ah)
 (ab<|Sum.inr (0,(a.1.1,a.1.2.1,(),()),(),a.2.2.1,a.2.2.2.1,())))
def wc(x:vI×Sb×al):Option (vI×al) :=
 ag (eN (x.1,())) (λc=>ao (nt<|aS c.1 0)
 (ab (([]:List VT),()))
 (ao (fits<|len x.1)
 (ag (Loop (jR x) (((0:Int),(0:Int),()),(),x.2.1,())) λb=>ao (da b.1 0)
 (ao (aS (-1)<|-1)
 (ab (x.1,()))
 (ag (Loop (Ko) (((-1:Int),aH i64 (-1) 1,(),()),(),b.2.2.2.1,x.1,())) λa=>ao (inside a.1.1 (len a.2.2.2.1)<|len a.2.2.2.1)
 (ao (inside 0 a.1.1<|len<|over a.2.2.2.1 a.1.1<|kn (minus (len a.2.2.2.1) a.1.1) (([]:aw),(0:Int),(0:Int),([]:aw),([]:aw),()))
 (ab (sub (over a.2.2.2.1 a.1.1<|kn (minus (len a.2.2.2.1) a.1.1) (([]:aw),(0:Int),(0:Int),([]:aw),([]:aw),())) (0:Int)<|minus a.1.1 0,()))
 ah)
 ah))
 (ao (aS b.2.1.1<|-1)
 (ab (x.1,()))
 (ag (Loop (mP) ((b.2.1.1,aH i64 b.2.1.1 1,(),()),(),b.2.2.2.1,x.1,())) λa=>ao (inside a.1.1 (len a.2.2.2.1)<|len a.2.2.2.1)
 (ao (inside 0 a.1.1<|len<|over a.2.2.2.1 a.1.1<|kn (minus (len a.2.2.2.1) a.1.1) (([]:aw),(0:Int),(0:Int),([]:aw),([]:aw),()))
 (ab (sub (over a.2.2.2.1 a.1.1<|kn (minus (len a.2.2.2.1) a.1.1) (([]:aw),(0:Int),(0:Int),([]:aw),([]:aw),())) (0:Int)<|minus a.1.1 0,()))
 ah)
 ah)))
 ah))
def uq(x:vI×Sb×al):Option (vI×al) :=
 ag (mm (x.1,())) (λa=>ao (nt a.1)
 (ab (([]:List VT),()))
 (ag (jQ (x.1,x.2.1,false,())) λb=>ab (b.1,())))
end Go.Ge
