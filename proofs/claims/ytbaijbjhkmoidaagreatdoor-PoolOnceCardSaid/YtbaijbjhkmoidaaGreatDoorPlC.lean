/- Plain laws of what the functions compute: part 3. -/
import Derived.Test.YtbaijbjhkmoidaaGreatDoorPlB
set_option linter.unusedSectionVars false
set_option linter.unusedVariables false
set_option linter.unusedSimpArgs false
namespace Go.Ge
variable [Lp]
def oL:aE:=[115,104,97,50,53,54,58]
def gB(s:aE):aE:=oL++lb (aH<|IY s)
theorem qI(s:aE):(gB s).length=71:=by
 unfold gB;rw[l9,lO];simp[aH,jS,oL]
theorem At{a:Type}(l:List a)(n:Nat)(h:l.length=n):sub l 0 (minus n 0)=l:=by
 unfold sub minus;rw[show((0:Int).toNat)=0 from rfl,zU,sG (by omega)]
theorem KQ(s:aE)(a:s.length<=1048576):iM (s,())=some (gB s,()):=by
 unfold iM;dsimp only;rw[FM s a,ag,cj (by decide) (by decide) (by decide),ae];dsimp only;rw[show sub (IY s) 0 (minus 32 0)=IY s from At _ 32 (jS s),MD _ (by simp[aH,jS]),ag];dsimp only;rw[gx<|by simp only[plus,len,lO,aH,p5,jS,gA,ni];omega,ae];rfl
theorem uP(s:aE)(a:s.length<=1048576):mY (s,())=some (gB s,()):=by
 unfold mY;dsimp only;rw[FL s a,ag,cj (by decide) (by decide) (by decide),ae];dsimp only;rw[show sub (IY s) 0 (minus 32 0)=IY s from At _ 32 (jS s),FN _ (by simp[aH,jS]),ag];dsimp only;rw[gx<|by simp only[plus,len,lO,aH,p5,jS,gA,ni];omega,ae];rfl
def Ob(t:aE):Int:=if t.length=71/\t.take 7=oL/\(kA<|t.drop 7).isSome=true then 0 else 2
theorem KR(l:aE)(k:Nat):sub l 0 (minus (k:Int) 0)=l.take k:=by
 unfold sub minus;rw[show((0:Int).toNat)=0 from rfl,zU,Int.sub_zero,AO]
theorem zF(t:aE):cw (t,oL,())=some (decide<|t.take 7=oL,()):=by
 unfold cw;dsimp only;by_cases h:7<=t.length
 .rw[qF<|by simp only[len];show(7:Int)<=_;omega,ae,show inside 0 (len oL) (len t)=true from cj (by decide) (by decide) (by simp only[len];show(7:Int)<=_;omega),ae,
   show sub t 0 (minus (len oL) 0)=t.take 7 from KR t 7,ag]
  rfl
 .rw[mI<|by simp only[len];show _<(7:Int);omega,af,ag];have:¬t.take 7=oL:=λe=>by
   have:=congrArg List.length e;rw[fj] at this;have a:oL.length=7:=rfl;omega
  rw[uc this]
theorem ME(t:aE):gd (t,oL,())=some (if t.take 7=oL then(t.drop 7,true,()) else(t,false,())):=by
 unfold gd dq;dsimp only;rw[zF,ag];dsimp only;by_cases h:t.take 7=oL
 .have a:7<=t.length:=by
   have:=congrArg List.length h;rw[fj] at this;have:oL.length=7:=rfl;omega
  rw[oe h,cg,af,show inside (len oL) (len t) (len t)=true from cj (by decide) (by simp only[len];show(7:Int)<=_;omega) (wK _),ae,ag,bH h,
   show sub t (len oL) (minus (len t)<|len oL)=t.drop 7 from D9 t 7 a]
 .rw[uc h,cM,ae,ag,bp h]
theorem Ik(t:aE)(b:t.length<=1048576):kt (t,())=some (Ob t,()):=by
 unfold kt;dsimp only;rw[show([115,104,97,50,53,54,58]:aE)=oL from rfl,ME,ag];unfold Ob;by_cases h:t.take 7=oL
 .have c:7<=t.length:=by
   have:=congrArg List.length h;rw[fj] at this;have:oL.length=7:=rfl;omega
  rw[bH h];dsimp only;rw[As _<|by rw[mJ];omega,ag,cg,cM,ae];cases d:kA (t.drop 7) with
  | none =>
    rw[bp<|by simp];show av (av (nt<|nt false) _ true) (some (2,())) _=_
    rw[cM,cg,af,ae]
  | some l =>
    show av (av (nt<|nt true) _ true) _ _=_
    rw[cg,cM,ae];by_cases a:t.length=71
    .rw[fL<|by simp only[len,mJ];omega,cg,af,bH ⟨a,h,rfl⟩]
    .rw[cc<|by simp only[len,mJ];omega,cM,ae,bp λe=>a e.1]
 .rw[bp h];dsimp only;rw[As _ b,ag,cM,cg,af,cg,af,ae,bp λe=>h e.2.1]
theorem Il(s:aE):(gB s).take 7=oL:=CC rfl
theorem Au(s:aE):(gB s).drop 7=lb (aH<|IY s):=zT rfl
theorem FQ(s:aE):Ob (gB s)=0:=by
 have a:(kA<|(gB s).drop 7).isSome=true:=by
  rw[Au,Ij];rfl
 exact bH ⟨qI s,Il s,a⟩
theorem Oc(d s:aE)(a:s.length<=1048576):lK (d,s,())=some (decide<|d=gB s,()):=by
 unfold lK;dsimp only;rw[KQ s a,ag];rfl
set_option maxRecDepth 100000
end Go.Ge
namespace Go.Ge
variable [Lp]
def Nv(s:aE):Prop:=∀x∈s,x≠0
instance (s:aE):Decidable (Nv s):=inferInstanceAs (Decidable (∀x∈s,x≠0))
abbrev Hd:=aE×Int×Int×Int×Int×Int×Int×aE×ah
def QY(s:aE)(a:Int):Prop:=s≠[]/\(s.length:Int)<=a/\Nv s
instance (s:aE) (a:Int):Decidable (QY s a):=inferInstanceAs (Decidable<|_/\_/\_)
def Kt(n b:Int):Prop:=0<=n/\n<b
instance (n b:Int):Decidable (Kt n b):=inferInstanceAs (Decidable<|_/\_)
def kindOk(h:Hd):Prop:=(h.2.1=1/\h.2.2.2.2.2.2.2.1=[])\/(h.2.1=2/\h.2.2.2.2.2.2.2.1=[]/\h.2.2.2.2.2.1=0)\/(h.2.1=3/\QY h.2.2.2.2.2.2.2.1 100/\h.2.2.2.2.2.1=0)
instance (h:Hd):Decidable (kindOk h):=inferInstanceAs (Decidable<|_\/_\/_)
def QZ(h:Hd)(a:Int):Prop:=Kt h.2.2.1 2097152/\Kt h.2.2.2.1 2097152/\Kt h.2.2.2.2.1 2097152/\Kt h.2.2.2.2.2.1 8589934592/\Kt h.2.2.2.2.2.2.1 8589934592/\QY h.1 a/\kindOk h
instance (h:Hd) (a:Int):Decidable (QZ h a):=inferInstanceAs (Decidable<|_/\_/\_/\_/\_/\_/\_)
def dN:aE->List aE
 | []=>[[]]
 | b::r=>if b=47 then []::dN r else match dN r with
   | h::t=>(b::h)::t
   | []=>[[b]]
theorem oM(s:aE):dN s≠[]:=by
 cases s with
 | nil=>simp[dN]
 | cons b r =>
   unfold dN;split
   .simp
   .split<;>simp
theorem lP{b:UInt8}(h:b≠47){r x:aE}{t:List aE}(e:dN r=x::t):dN (b::r)=(b::x)::t:=by
 rw[dN,bp h,e]
def parts(p:aE):List aE:=if p=[] then [] else dN p
theorem KS(c:UInt8):aQ (u8 c) 47=decide (c=47):=Ns (n:=47)
theorem Pl(c:UInt8):aQ (u8 c) 0=decide (c=0):=Ns (n:=0)
theorem tP(p:aE)(y:p.length<=1048576):ib (p,())=some (parts p,()):=by
 unfold ib parts;dsimp only;by_cases h:p=[]
 .rw[iV h,ae,bH h]
 .rw[eP h,af,bp h];have key:=ym (f:=gq (p,())) p (λ(s:aE×List aE) i=>(((),s.1,(i:Int),()),s.2,()))
   (λi s x=>some (.inl<|if x=47 then([],s.2++[s.1]) else(s.1++[x],s.2))) (λi s=>(((),s.1,(i:Int),()),s.2,())) (λi s=>s.1.length<=i/\s.2.length<=i)
   (λs i x q w u=>by
    unfold gq;dsimp only;rw[dt w,ae,bb q,ag,KS];by_cases b:x=47
    .rw[oe b,ae,b9 (by simp only[gA,ni];omega),ae,ag,bB (by omega)];simp only[bH b];rfl
    .rw[uc b,af,bB (by omega),FG (by omega) (by omega),ae,sub_one q,b9 (by simp only[gA,ni];omega),ae,ag];simp only[bp b];rfl)
   (λs i x z q u d=>by
    obtain rfl:=Sum.inl.inj (aq d);by_cases b:x=47
    .simp only[bH b,l9,gA,ni];omega
    .simp only[bp b,l9,gA,ni];omega)
   (λs u=>by
    unfold gq;dsimp only;rw[cP,af];rfl)
   (λs i x _ _ h=>by cases h) ([],[]) ⟨cU _,cU _⟩
  have run:∀(r:aE) (i:Nat) (a:aE) (o:List aE),∃e c j,yl (λi (s:aE×List aE) x=>some (.inl<|if x=47 then([],s.2++[s.1]) else(s.1++[x],s.2))) (λi (s:aE×List aE)=>(((),s.1,(i:Int),()),s.2,())) r i (a,o)=some (((),e,j,()),c,()) /\
    c++[e]=o++(match dN r with|h::t=>(a++h)::t|[]=>[a])/\c.length<=o.length+r.length:=by
   intro r;induction r with
   | nil=>intro i a o;exact⟨a,o,_,rfl,by simp[dN],by simp⟩
   | cons x r v =>
     intro i a o;by_cases b:x=47
     .obtain⟨e,c,j,g,l,m⟩:=v (i+1) [] (o++[a]);refine⟨e,c,j,?_,?_,?_⟩
      .unfold yl;simp only[bH b];exact g
      .rw[l,dN,bH b];cases d:dN r with
       | nil=>exact absurd d (oM r)
       | cons h t=>simp
      .simp only[l9,gA,ni] at m⊢;omega
     .obtain⟨e,c,j,g,l,m⟩:=v (i+1) (a++[x]) o;refine⟨e,c,j,?_,?_,?_⟩
      .unfold yl;simp only[bp b];exact g
      .rw[l];cases d:dN r with
       | nil=>exact absurd d (oM r)
       | cons h t=>rw[lP b d];simp
      .simp only[gA] at m⊢;omega
  obtain⟨e,c,j,g,l,m⟩:=run p 0 [] [];have n:Loop (gq (p,())) (((),([]:aE),(0:Int),()),([]:List aE),())=some (((),e,j,()),c,()):=key.trans g;rw[n,ag];dsimp only;simp only[ni] at m;rw[b9<|by simp only[gA,ni];omega,ae,la,l];cases d:dN p with
  | nil=>exact absurd d (oM p)
  | cons h t=>simp
theorem FR(x:aE)(a:47∉x)(r:aE):dN (x++47::r)=x::dN r:=by
 induction x with
 | nil=>rw[rU,dN,bH rfl]
 | cons b x c =>
   simp only[eR,not_or] at a;exact lP (λe=>a.1 e.symm) (c a.2)
theorem B1(x:aE)(a:47∉x):dN x=[x]:=by
 induction x with
 | nil=>rfl
 | cons b x c =>
   simp only[eR,not_or] at a;exact lP (λe=>a.1 e.symm) (c a.2)
theorem FT(s:aE):∀x∈dN s,47∉x/\x.length<=s.length:=by
 induction s with
 | nil=>intro x a;simp[dN] at a;subst a;simp
 | cons b r d =>
   intro x a;by_cases h:b=47
   .rw[dN,bH h] at a;rcases eR.1 a with rfl|a
    .simp
    .obtain⟨c,f⟩:=d x a;exact⟨c,by simp only[gA];omega⟩
   .cases hs:dN r with
    | nil=>exact absurd hs (oM r)
    | cons y t =>
      rw[lP h hs] at a;rw[hs] at d;rcases eR.1 a with rfl|a
      .obtain⟨c,f⟩:=d y (kQ ..);exact⟨by simp only[eR,not_or];exact⟨λe=>h e.symm,c⟩,by simp only[gA];omega⟩
      .obtain⟨c,f⟩:=d x (kJ _ a);exact⟨c,by simp only[gA];omega⟩
theorem zG(s:aE):(dN s).length<=s.length+1:=by
 induction s with
 | nil=>simp[dN]
 | cons b r a =>
   by_cases h:b=47
   .rw[dN,bH h];simp only[gA];omega
   .cases hs:dN r with
    | nil=>exact absurd hs (oM r)
    | cons y t=>rw[lP h hs];rw[hs] at a;simp only[gA] at a⊢;omega
theorem Im(p:aE):∀x∈parts p,47∉x/\x.length<=p.length:=by
 unfold parts;by_cases h:p=[]
 .rw[bH h];intro x a;cases a
 .rw[bp h];exact FT p
theorem B2(p:aE):(parts p).length<=p.length+1:=by
 unfold parts;by_cases h:p=[]
 .rw[bH h];simp
 .rw[bp h];exact zG p
def vT(s:aE):Bool:=decide (s≠[46]/\s≠[46,46]/\1<=s.length/\s.length<=32/\0∉s)
theorem zH(s:aE)(A:s.length<=1048576):ku (s,())=some (vT s&&decide (47∉s),()):=by
 unfold ku;have key:=ym (f:=fE (s,())) s (λ(_:ah) i=>((false,(i:Int),()),()))
  (λi _ x=>some (if x=0\/x=47 then .inr (1,(false,(i:Int),()),()) else .inl ())) (λi _=>(0,(false,(i:Int),()),())) (λ_ _=>True)
  (λu i x v w _=>by
   unfold fE;dsimp only;rw[dt w,ae,bb v,ag,Pl];by_cases l:x=0
   .rw[oe l,cg,af,ag,ae,bH (.inl l)];rfl
   .rw[uc l,cM,ae,ag,KS,ag];by_cases g:x=47
    .rw[oe g,ae,bH (.inr g)];rfl
    .rw[uc g,af,bp (by simp[l,g]),bB (by omega)];rfl)
  (λ_ _ _ _ _ _ _=>trivial)
  (λu _=>by
   unfold fE;dsimp only;rw[cP,af])
  (λ_ _ _ _ _ h=>by cases h) () trivial
 have run:∀(r:aE) (i:Nat),∃q,yl (λi (_:ah) x=>some (if x=0\/x=47 then Sum.inr (1,(false,(i:Int),()),()) else Sum.inl ())) (λi _=>((0:Nat),(false,(i:Int),()),())) r i ()=some q /\
   q.1=(if 0∉r/\47∉r then 0 else 1)/\q.2.1.1=false:=by
  intro r;induction r with
  | nil=>intro i;exact⟨_,rfl,by simp,rfl⟩
  | cons x r y =>
    intro i;unfold yl;by_cases h:x=0\/x=47
    .simp only[bH h];refine⟨_,rfl,?_,rfl⟩;rw[bp];rcases h with h|h<;>simp[h]
    .simp only[bp h];obtain⟨q,g,m,n⟩:=y (i+1);refine⟨q,g,?_,n⟩;rw[m];simp only[not_or] at h;simp only[eR,not_or];have o:¬(0=x):=λe=>h.1 e.symm;have p:¬(47=x):=λe=>h.2 e.symm;simp[o,p]
 obtain⟨q,g,m,n⟩:=run s 0;have j:Loop (fE (s,())) ((false,(0:Int),()),())=some q:=key.trans g;rw[j,ag];have el:oW 1 (len s)=decide (1<=s.length):=by unfold oW len;apply decide_eq_decide.2;omega
 have z:oW (len s) 32=decide (s.length<=32):=BX 32 s;rw[el,z,m,n];unfold vT;by_cases a:0∉s/\47∉s
 .rw[bH a,D1,ae];by_cases c:1<=s.length
  .by_cases d:s.length<=32
   .by_cases e:s=[46]
    .simp[e,av,ie,nt]
    .by_cases f:s=[46,46]
     .simp[f,av,ie,nt]
     .simp[a,c,d,e,f,av,ie,nt]
   .simp[d,c,av]
  .simp[c,av]
 .rw[bp a,GR,af]
  congr 2
  by_cases b:0∈s
  .simp[b]
  .have:47∈s:=by
    have:=a;simp only[not_and,Decidable.not_not] at this;exact this b
   simp[this]
theorem Io(p:aE)(o:p.length<=1048576):iO (p,())=some ((parts p).all vT&&decide ((parts p).length<=8)&&decide (p.length<=96),()):=by
 unfold iO;dsimp only;rw[tP p o,ag];have m:=Im p;have v:=B2 p;generalize parts p=l at m v;have key:=ym (f:=jB (l,())) l (λ(_:ah) i=>((false,(i:Int),()),()))
  (λi _ x=>some (if vT x=false then .inr (1,(false,(i:Int),()),()) else .inl ())) (λi _=>(0,(false,(i:Int),()),())) (λ_ _=>True)
  (λu i x n w _=>by
   unfold jB;dsimp only;have c:=m x (od n);rw[dt w,ae,bb n,ag,zH x (by omega),ag];dsimp only;rw[oe c.1,Bool.and_true];cases h:vT x with
   | true=>rw[cg,af,bp (by simp),bB (by omega)];rfl
   | false=>rw[cM,ae,bH rfl];rfl)
  (λ_ _ _ _ _ _ _=>trivial)
  (λu _=>by
   unfold jB;dsimp only;rw[cP,af])
  (λ_ _ _ _ _ h=>by cases h) () trivial
 have run:∀(r:List aE) (i:Nat),∃q,yl (λi (_:ah) x=>some (if vT x=false then Sum.inr (1,(false,(i:Int),()),()) else Sum.inl ())) (λi _=>((0:Nat),(false,(i:Int),()),())) r i ()=some q /\
   q.1=(if r.all vT=true then 0 else 1)/\q.2.1.1=false:=by
  intro r;induction r with
  | nil=>intro i;exact⟨_,rfl,rfl,rfl⟩
  | cons x r y =>
    intro i;unfold yl;cases h:vT x with
    | false=>exact⟨_,rfl,by simp[h],rfl⟩
    | true =>
      obtain⟨q,d,e,g⟩:=y (i+1);exact⟨q,d,by rw[e];simp[h],g⟩
 obtain⟨q,d,e,g⟩:=run l 0;have b:Loop (jB (l,())) ((false,(0:Int),()),())=some q:=key.trans d;rw[b,ag,e,g];have z:oW (len l) 8=decide (l.length<=8):=BX 8 l;have j:oW (len p) 96=decide (p.length<=96):=BX 96 p;rw[z,j];cases h:l.all vT with
 | true =>
   rw[bH rfl,D1,ae];by_cases a:l.length<=8<;>simp[a,av]
 | false=>rw[bp<|by simp,GR,af];simp
def Av(d n:aE):aE:=if d=[]\/n=[] then d++n else d++47::n
theorem B3(d n:aE)(c:d.length<=1048576)(e:n.length<=1048576):mu (d,n,())=some (Av d n,()):=by
 unfold mu Av;dsimp only;by_cases a:d=[]
 .rw[iV a,ae,bH (.inl a),a];rfl
 .rw[eP a,af];by_cases b:n=[]
  .rw[iV b,ae,bH (.inr b),b,ua]
  .rw[eP b,af,b9 (by simp only[gA,ni];omega),ae,b9 (by simp only[la,l9,gA,ni];omega),ae,bp (by simp[a,b])];simp[app]
theorem ob{a b:Type}{o:Option a}{x:a}{f:a->Option b}{r:Option b}(h:o=some x)(k:f x=r):ab o f=r:=by rw[h];exact k
theorem KT{f:Type}(l:List f)(p:Nat->f->Bool) :
  (∃i x,l[i]?=some x/\p i x=true/\∀j y,j<i->l[j]?=some y->p j y=false)\/∀i x,l[i]?=some x->p i x=false:=by
 by_cases h:∃i x,l[i]?=some x/\p i x=true
 .left;have key:∀n i x,i<=n->l[i]?=some x->p i x=true->∃i x,l[i]?=some x/\p i x=true/\∀j y,j<i->l[j]?=some y->p j y=false:=by
   intro n;induction n with
   | zero =>
     intro i x g a b;obtain rfl:i=0:=by omega
     exact⟨0,x,a,b,λj y d=>by omega⟩
   | succ n m =>
     intro i x g a b;by_cases k:∃j y,j<i/\l[j]?=some y/\p j y=true
     .obtain⟨j,y,d,e,c⟩:=k;exact m j y (by omega) e c
     .refine⟨i,x,a,b,λj y d e=>?_⟩;cases c:p j y with
      | false=>rfl
      | true=>exact absurd ⟨j,y,d,e,c⟩ k
  obtain⟨i,x,a,b⟩:=h;exact key i i x (cU _) a b
 .right;intro i x a;cases c:p i x with
  | false=>rfl
  | true=>exact absurd ⟨i,x,a,c⟩ h
theorem uQ{S R:Type}{f:S->Option (S⊕R)}{r:R}(a:Nat->S):∀(d k:Nat),(∀i,k<=i->i<k+d->f (a i)=some (.inl<|a<|i+1))->f (a<|k+d)=some (.inr r)->Loop f (a k)=some r:=by
 intro d;induction d with
 | zero=>intro k _ h;rw[rq] at h;rw[bm,h];rfl
 | succ d c =>
   intro k b e;rw[bm,b k (cU _) (by omega)];exact c (k+1) (λi g j=>b i (by omega) (by omega)) (by rw[show k+1+d=k+(d+1) by omega];exact e)
theorem KU{q S R:Type}{f:S->Option (S⊕R)}(l:List q)(b:Int->S)(p:Nat->q->Bool)(c:Nat->q->R)(d:R)(w:l.length<=4294967296)
  (a:∀i x,l[i]?=some x->i<l.length->aK .i64 (i:Int) 1=((i+1:Nat):Int)->f (b (i:Int))=some (if p i x=true then .inr (c i x) else .inl (b ((i+1:Nat):Int))))
  (g:f (b (l.length:Int))=some (.inr d)) :
  (∃i x,l[i]?=some x/\p i x=true/\(∀j y,j<i->l[j]?=some y->p j y=false)/\Loop f (b 0)=some (c i x))\/((∀i x,l[i]?=some x->p i x=false)/\Loop f (b 0)=some d):=by
 have h:∀i x,l[i]?=some x->p i x=false->f (b (i:Int))=some (.inl<|b ((i+1:Nat):Int)):=λi x e o=>by
  have r:=cE e;rw[a i x e r<|bB<|by omega,o];rfl
 rcases KT l p with ⟨i,x,e,o,m⟩|v
 .left;refine⟨i,x,e,o,m,?_⟩;have r:=cE e;refine dn i (λj:Nat=>b (j:Int)) (λj u=>?_) ?_
  .have n:j<l.length:=by omega
   exact h j l[j] (nP n) (m j _ u<|nP n)
  .rw[a i x e r<|bB<|by omega,o];rfl
 .right;refine⟨v,dn l.length (λj:Nat=>b (j:Int)) (λj m=>?_) g⟩;exact h j l[j] (nP m) (v j _<|nP m)
theorem KV{e h S R:Type}{f:S->Option (S⊕R)}(l:List e)(b:List h->Int->S)(g:e->List h)(c:R)(n:l.length<=4294967296)
  (a:∀i x,l[i]?=some x->i<l.length->aK .i64 (i:Int) 1=((i+1:Nat):Int)->f (b ((l.take i).flatMap g) (i:Int))=some (.inl<|b ((l.take i).flatMap g++g x) ((i+1:Nat):Int)))
  (d:f (b (l.flatMap g) (l.length:Int))=some (.inr c)):Loop f (b [] 0)=some c:=by
 refine dn l.length (λj:Nat=>b ((l.take j).flatMap g) (j:Int)) (λj m=>?_) (by simp only[CA];exact d);have hx:l[j]?=some l[j]:=nP m;have:=a j l[j] hx m (bB<|by omega);rw[this,List.take_add_one,hx,List.flatMap_append];simp
theorem Ea{a:Type}{l:List a}(h:l.length<=4294967296):fits (len l)=true:=H2 h
theorem FU{a:Type}{l:List a}{x:a}:x∈l↔∃i:Nat,l[i]?=some x:=by rw[List.mem_iff_getElem?]
abbrev pX:=aE×Int×ah
abbrev Nd:=Int×Bool×Int×Int×aE×List pX×ah
abbrev Tb:=Int×Int×List Nd×ah
abbrev Hn:=Int×Int×Int×ah
abbrev Fs:=Tb×List Hn×ah
abbrev oa:=Int×aE×aE×Int×Int×Int×aE×Int×Int×ah
abbrev Rs:=Int×Int×aE×List aE×ah
abbrev Od:=Int×Bool×oa×ah
abbrev Dk:=Fs×Fs×List Od×ah
abbrev Pt:=List (Int×Int×ah)×Int×ah
abbrev Wd:=Dk×Pt×ah
def zN:Nd:=(0,false,0,0,[],[],())
def dh(L:List Nd)(id:Int):Option Nd:=L.find? λx=>decide (x.1=id)
theorem sz{a:Type}{l:List a}{p:a->Bool}{i:Nat}{x:a}(c:l[i]?=some x)(d:p x=true)(e:∀j y,j<i->l[j]?=some y->p y=false):l.find? p=some x:=by
 have f:=cE c;rw[List.find?_eq_some_iff_getElem];refine⟨d,i,f,(sE.1 c).2,λj b=>?_⟩;have:=e j _ b (nP<|by omega);simp[this]
theorem yo{a:Type}{l:List a}{p:a->Bool}(h:∀(i:Nat) x,l[i]?=some x->p x=false):l.find? p=none:=by
 rw[List.find?_eq_none];intro x b;obtain⟨i,c⟩:=FU.1 b;simp[h i x c]
theorem lQ{L:List Nd}{id:Int}{x:Nd}(h:dh L id=some x):x∈L/\x.1=id:=⟨List.mem_of_find?_eq_some h,by simpa using List.find?_some h⟩
theorem B4(t:Tb)(id:Int)(c:t.2.2.1.length<=4294967296) :
  bh ((id,()),t,())=some ((((dh t.2.2.1 id).getD zN),(dh t.2.2.1 id).isSome,()),t,()):=by
 unfold bh;rcases KU (f:=fG ((id,()),t,())) t.2.2.1 (λi=>((false,i,()),zN,())) (λ_ x=>decide (x.1=id)) (λi x=>(1,(true,(i:Int),()),x,())) (0,(false,(t.2.2.1.length:Int),()),zN,()) c
  (λi x b d a=>by
   unfold fG;dsimp only;rw[nL,oe d,ae,aT (by omega) (by rw[cX];omega),ae,bb b,ag,ag,ae,a];by_cases h:x.1=id
   .rw[fL h];simp[h,av]
   .rw[cc h];simp[h,av])
  (by unfold fG;dsimp only;rw[cP];rfl) with ⟨i,x,b,g,j,h⟩|⟨l,h⟩
 .refine ob h ?_;have e:dh t.2.2.1 id=some x:=sz b g j;rw[e];rfl
 .refine ob h ?_;have e:dh t.2.2.1 id=none:=yo l;rw[e];rfl
def nu(n y:Nd):List Nd:=if y.1≠n.1 then [y] else if 0<n.2.2.1\/0<n.2.2.2.1 then [n] else []
def im(n:Nd)(L:List Nd):List Nd:=L.flatMap (nu n)
theorem KW(n y:Nd):(nu n y).length<=1:=by
 unfold nu;by_cases h:y.1≠n.1
 .rw[bH h];simp
 .rw[bp h];split<;>simp
theorem yp(n:Nd)(L:List Nd):(im n L).length<=L.length:=by
 induction L with
 | nil=>simp[im]
 | cons y r a=>have:=KW n y;simp only[im,Cz,l9,gA] at a⊢;omega
abbrev n0(t:Tb)(n:Nd):Tb:=(t.1,t.2.1,im n t.2.2.1,())
theorem wz(t:Tb)(n:Nd)(j:t.2.2.1.length<=4294967295):aW ((n,()),t,())=some ((),n0 t n,()):=by
 unfold aW;refine ob (KV (f:=fH ((n,()),t,())) t.2.2.1 (λo i=>(((),i,()),o,())) (nu n) (((),(t.2.2.1.length:Int),()),im n t.2.2.1,()) (by omega) (λi x d e a=>?_) ?_) rfl
 .have b:=yp n (t.2.2.1.take i);rw[fj] at b;unfold fH;dsimp only;have g:∀(z:Nd),fits (plus (len<|(t.2.2.1.take i).flatMap<|nu n)<|len [z])=true:=λz=>b9 (by
   have:((t.2.2.1.take i).flatMap<|nu n).length<=min i t.2.2.1.length:=b;simp only[p4];omega)
  rw[nL,oe e,ae,aT (by omega) (by rw[cX];omega),ae,bb d,ag,a];simp only[ae,ag,g];by_cases h:x.1=n.1
  .rw[fL h,cg,af];by_cases k:0<n.2.2.1
   .rw[bR k];simp only[cg,af,ae,ag,bS];simp[nu,h,k,la]
   .rw[aN<|by omega];by_cases c:0<n.2.2.2.1
    .rw[bR c];simp only[cM,af,ae,ag,bS];simp[nu,h,k,c,la]
    .rw[aN<|by omega];simp only[cM,af,ae,ag,bS];simp[nu,h,k,c,la]
  .rw[cc h,cM];simp only[ae,ag,bS];simp[nu,h,la]
 .unfold fH;dsimp only;rw[cP];rfl
def Er(e:Int):Prop:=0<=e/\e<=13
def sA(d:Nd)(s:aE):Int:=match d.2.2.2.2.2.1.find? λe=>decide (e.1=s) with|some e=>e.2.1|none=>0
theorem Aw(d:Nd)(s:aE)(c:d.2.2.2.2.2.1.length<=4294967296):dW (d,s,())=some (sA d s,()):=by
 unfold dW;rcases KU (f:=jc (d,s,())) d.2.2.2.2.2.1 (λi=>((0,i,()),())) (λ_ e=>decide (e.1=s)) (λi e=>(1,(e.2.1,(i:Int),()),())) (0,(0,(d.2.2.2.2.2.1.length:Int),()),()) c
  (λi x b g a=>by
   unfold jc;dsimp only;rw[nL,oe g,ae,bb b,ag,ag,a];by_cases h:x.1=s
   .rw[iV h];simp[h,av]
   .rw[eP h];simp[h,av])
  (by unfold jc;dsimp only;rw[cP];rfl) with ⟨i,x,b,j,l,h⟩|⟨m,h⟩
 .refine ob h ?_;have e:(d.2.2.2.2.2.1.find? λe=>decide (e.1=s))=some x:=sz b j l;unfold sA;rw[e];rfl
 .refine ob h ?_;have e:(d.2.2.2.2.2.1.find? λe=>decide (e.1=s))=none:=yo m;unfold sA;rw[e];rfl
structure Q0 (t:Tb):Prop where
 l:t.2.2.1.length<=1000000
 n:∀x∈t.2.2.1,x.2.2.2.2.2.1.length<=1000000
 d:∀x∈t.2.2.1,x.2.2.2.2.1.length<=1048576
theorem Er.eq{e:Int}:aQ e 0=decide (e=0):=rfl
def Ax(s:aE)(n:Int):aE:=s++List.replicate (n.toNat-s.length) 0
theorem uR(s:aE):aH (al s)=s:=by
 simp only[aH,al,zX];refine(Cv λb _=>?_).trans (List.map_id s);show UInt8.ofNat ((b.toNat:Int)).toNat=b
 simp
theorem zI(n:Nat):aH (List.replicate n 0)=List.replicate n 0:=by simp[aH]
theorem KX(s:aE)(n:Int)(c:s.length<=1048576)(d:n<=1048576):kv (s,n,())=some (Ax s n,()):=by
 unfold kv;dsimp only;rw[Ea<|by omega,ae];have b:(al s).length=s.length:=by simp[al]
 have key:=uQ (f:=gR (s,n,())) (r:=(((),()),al s++List.replicate (n.toNat-s.length) 0,())) (λk=>(((),()),al s++List.replicate k 0,())) (n.toNat-s.length) 0
  (λi e g=>by
   unfold gR;dsimp only;have hlen:(al s++List.replicate i (0:Int)).length=s.length+i:=by simp[b]
   rw[bR<|by rw[cX,hlen];omega,ae,b9 (by rw[hlen];simp;omega),ae,bS,la,mj,<-Jl])
  (by
   unfold gR;dsimp only;rw[kL];have hlen:(al s++List.replicate (n.toNat-s.length) (0:Int)).length=s.length+(n.toNat-s.length):=by simp[b]
   rw[aN<|by rw[cX,hlen];omega,af,dd])
 have a:Loop (gR (s,n,())) (((),()),al s,())=some (((),()),al s++List.replicate (n.toNat-s.length) 0,()):=by simpa using key
 refine ob a ?_;dsimp only;rw[lu,zI,Ax]
 congr 2
 congr 1
 exact uR s
theorem Ip(s:aE)(n:Int):(Ax s n).length=s.length+(n.toNat-s.length):=by simp[Ax]
theorem MF{σ S R:Type}{f:S->Option (S⊕R)}(n:Nat)(c:Nat->σ->S)(a:Nat->σ->Prop)(Q:R->Prop)
  (b:∀i s,i<n->a i s->(∃l,f (c i s)=some (.inl<|c (i+1) l)/\a (i+1) l)\/∃r,f (c i s)=some (.inr r)/\Q r)
  (e:∀s,a n s->∃r,f (c n s)=some (.inr r)/\Q r) (m:σ) (o:a 0 m):∃r,Loop f (c 0 m)=some r/\Q r:=by
 have key:∀d k s,k+d=n->a k s->∃r,Loop f (c k s)=some r/\Q r:=by
  intro d;induction d with
  | zero =>
    intro k s p h;obtain rfl:k=n:=by omega
    obtain⟨r,g,j⟩:=e s h;exact⟨r,by rw[bm,g];rfl,j⟩
  | succ d q =>
    intro k s p h;rcases b k s (by omega) h with ⟨l,g,j⟩|⟨r,g,j⟩
    .obtain⟨r,u,v⟩:=q (k+1) l (by omega) j;exact⟨r,by rw[bm,g];exact u,v⟩
    .exact⟨r,by rw[bm,g];rfl,j⟩
 exact key n 0 m (by omega) o
def Iq(d:Nd)(m:List pX):Nd:=(d.1,d.2.1,d.2.2.1,d.2.2.2.1,d.2.2.2.2.1,m,())
theorem MG(d:Nd)(e:pX)(h:d.2.2.2.2.2.1.length<=1000000):∃k,gK (d,e,())=some (Iq d<|d.2.2.2.2.2.1.take k++[e]++d.2.2.2.2.2.1.drop k,()):=by
 unfold gK;have key:∃r:(Int×ah)×ah,Loop (jI (d,e,())) (((0:Int),()),())=some r/\∃k:Nat,k<=d.2.2.2.2.2.1.length/\r=(((k:Int),()),()) :=
  MF (σ:=ah) d.2.2.2.2.2.1.length (λi _=>(((i:Int),()),())) (λ_ _=>True) (λr=>∃k:Nat,k<=d.2.2.2.2.2.1.length/\r=(((k:Int),()),()))
   (λi _ a _=>by
    unfold jI;dsimp only;rw[nL,oe a,ae,bb (nP a),ag,bB (by omega)];cases LN (d.2.2.2.2.2.1[i]).1 e.1 with
    | true=>exact .inl ⟨(),rfl,trivial⟩
    | false=>exact .inr ⟨_,rfl,i,by omega,rfl⟩)
   (λ_ _=>⟨_,by unfold jI;dsimp only;rw[cP];rfl,_,cU _,rfl⟩) () trivial
 obtain⟨r,b,k,c,rfl⟩:=key;refine⟨k,ob b ?_⟩;dsimp only;have f:sub d.2.2.2.2.2.1 0 (minus (k:Int) 0)=d.2.2.2.2.2.1.take k:=KD _ _;have g:sub d.2.2.2.2.2.1 (k:Int) (minus (len d.2.2.2.2.2.1) (k:Int))=d.2.2.2.2.2.1.drop k:=KE _ _ c;rw[show inside 0 (k:Int) (len d.2.2.2.2.2.1)=true from cj (by omega) (by omega) (by rw[cX];omega),ae,f,g,
  b9 (by simp;omega),ae,b9 (by simp[la];omega),ae,show inside (k:Int) (len d.2.2.2.2.2.1) (len d.2.2.2.2.2.1)=true from cj (by omega) (by rw[cX];omega) (wK _),ae,
  b9 (by simp[la];omega),ae]
 rfl
def Ay(s:aE)(e:pX):List pX:=if e.1≠s then [e] else []
theorem Ir(s:aE)(l:List pX):(l.flatMap<|Ay s).length<=l.length:=by
 induction l with
 | nil=>simp
 | cons a r b =>
   have:(Ay s a).length<=1:=by unfold Ay;split<;>simp
   simp only[Cz,l9,gA];omega
theorem Az{s:aE}{l:List pX}{e:pX}(h:e∈l.flatMap (Ay s)):e∈l:=by
 obtain⟨a,c,b⟩:=List.mem_flatMap.1 h;unfold Ay at b;split at b
 .rw[gD.1 b];exact c
 .cases b
def En:List Nd->Nat
 | []=>0
 | x::r=>x.2.2.2.2.2.1.length+En r
theorem G0(a b:List Nd):En (a++b)=En a+En b:=by
 induction a with
 | nil=>simp[En]
 | cons x r c=>simp only[wF,En,c];omega
theorem MH{L:List Nd}{x:Nd}(h:x∈L):x.2.2.2.2.2.1.length<=En L:=by
 induction L with
 | nil=>cases h
 | cons y r a =>
   rcases eR.1 h with rfl|h
   .simp only[En];omega
   .have:=a h;simp only[En];omega
def Uq(L:List Nd):Prop:=L.Pairwise λa b=>a.1≠b.1
theorem Uq.eq{L:List Nd}(h:Uq L):∀{x y:Nd},x∈L->y∈L->x.1=y.1->x=y:=by
 induction L with
 | nil=>intro x y d;cases d
 | cons a r g =>
   intro x y d i e;obtain⟨f,j⟩:=Jo.1 h;rcases eR.1 d with b|b<;>rcases eR.1 i with c|c
   .rw[b,c]
   .exact absurd (by rw[<-b];exact e) (f y c)
   .exact absurd (by rw[<-c];exact e.symm) (f x b)
   .exact g j b c e
theorem kD{n y:Nd}{L:List Nd}(h:y∈im n L):(y∈L/\y.1≠n.1)\/(y=n/\∃z∈L,z.1=n.1):=by
 obtain⟨z,b,a⟩:=List.mem_flatMap.1 h;unfold nu at a;by_cases e:z.1≠n.1
 .rw[bH e] at a;rw[gD.1 a];exact .inl ⟨b,e⟩
 .rw[bp e] at a;split at a
  .exact .inr ⟨gD.1 a,z,b,by simpa using e⟩
  .cases a
theorem Eb{n:Nd}{L:List Nd}(h:∀z∈L,z.1≠n.1):im n L=L:=by
 induction L with
 | nil=>rfl
 | cons y r a =>
   have b:nu n y=[y]:=by unfold nu;rw[bH<|h y<|kQ ..]
   have:=a λz c=>h z (kJ _ c);unfold im at this⊢;rw[Cz,b,this];rfl
theorem MI{n:Nd}{L:List Nd}(h:Uq L):Uq (im n L):=by
 induction L with
 | nil=>exact .nil
 | cons y r j =>
   obtain⟨i,l⟩:=Jo.1 h;have m:=j l;have e:im n (y::r)=nu n y++im n r:=rfl;rw[e];refine List.pairwise_append.2 ⟨?_,m,?_⟩
   .unfold nu;by_cases k:y.1≠n.1
    .rw[bH k];exact Je _ _
    .rw[bp k];split
     .exact Je _ _
     .exact .nil
   .intro a c b d;have f:a.1=y.1:=by
     unfold nu at c;by_cases k:y.1≠n.1
     .rw[bH k] at c;rw[gD.1 c]
     .rw[bp k] at c;split at c
      .rw[gD.1 c];simpa using(by simpa using k:y.1=n.1).symm
      .cases c
    rw[f];rcases kD d with ⟨d,_⟩|⟨rfl,z,o,g⟩
    .exact i b d
    .rw[<-g];exact i z o
theorem KY{n:Nd}{L:List Nd}(h:Uq L){a:Nat}(c:∀z∈L,z.1=n.1->n.2.2.2.2.2.1.length<=z.2.2.2.2.2.1.length+a):En (im n L)<=En L+a:=by
 induction L with
 | nil=>exact jO _
 | cons y r g =>
   obtain⟨i,j⟩:=Jo.1 h;have e:im n (y::r)=nu n y++im n r:=rfl;rw[e,G0];by_cases k:y.1≠n.1
   .have:=g j λz b=>c z (kJ _ b);have d:nu n y=[y]:=by unfold nu;rw[bH k]
    rw[d];simp only[En];omega
   .have f:y.1=n.1:=by simpa using k
    rw[Eb (L:=r) λz b=>λq=>i z b (by rw[f,q])];have l:=c y (kQ ..) f;have d:En (nu n y)<=n.2.2.2.2.2.1.length:=by
     unfold nu;rw[bp k];split<;>simp[En]
    simp only[En];omega
structure tW (k s:Nat) (t:Tb):Prop where
 l:t.2.2.1.length<=k+1
 s:En t.2.2.1<=s
 d:∀x∈t.2.2.1,x.2.2.2.2.1.length<=1048576
 nm:∀x∈t.2.2.1,∀e∈x.2.2.2.2.2.1,e.1.length<=32
 ids:∀x∈t.2.2.1,x.1<t.2.1
 nx:1<=t.2.1/\t.2.1<=k+2
 pos:∀x∈t.2.2.1,1<=x.1
 un:Uq t.2.2.1
 fl:∀x∈t.2.2.1,x.2.1=false->x.2.2.2.2.2.1=[]
 ac:∀x∈t.2.2.1,∀e∈x.2.2.2.2.2.1,∀y∈t.2.2.1,y.1=e.2.1->y.2.1=true->x.1<y.1
theorem tW.mono{k s a b:Nat}{t:Tb}(h:tW k s t)(c:k<=a)(e:s<=b):tW a b t :=
 ⟨by have:=h.l;omega,by have:=h.s;omega,h.d,h.nm,h.ids,⟨h.nx.1,by have:=h.nx.2;omega⟩,h.pos,h.un,h.fl,h.ac⟩
theorem tW.len{k s:Nat}{t:Tb}(h:tW k s t)(b:k<=1000)(c:s<=1000):Q0 t :=
 ⟨by have:=h.l;omega,λx a=>by have:=MH a;have:=h.s;omega,h.d⟩
theorem tW.set{k s a:Nat}{t:Tb}(h:tW k s t)(n:Nd)(w:n.2.2.2.2.1.length<=1048576)(g:∀e∈n.2.2.2.2.2.1,e.1.length<=32)(A:n.2.1=false->n.2.2.2.2.2.1=[])
  (f:∀z∈t.2.2.1,z.1=n.1->z.2.1=n.2.1) (i:∀e∈n.2.2.2.2.2.1,∀y∈t.2.2.1,y.1=e.2.1->y.2.1=true->n.1<y.1)
  (B:∀z∈t.2.2.1,z.1=n.1->n.2.2.2.2.2.1.length<=z.2.2.2.2.2.1.length+a):tW k (s+a) (n0 t n) where
 l:=iA (yp _ _) h.l
 s:=iA (KY h.un B) (by have:=h.s;omega)
 d:=λx b=>by rcases kD b with ⟨b,_⟩|⟨rfl,_⟩<;>first|exact h.d x b|exact w
 nm:=λx b=>by rcases kD b with ⟨b,_⟩|⟨rfl,_⟩<;>first|exact h.nm x b|exact g
 ids:=λx b=>by
  rcases kD b with ⟨b,_⟩|⟨rfl,z,c,e⟩
  .exact h.ids x b
  .rw[<-e];exact h.ids z c
 nx:=h.nx
 pos:=λx b=>by
  rcases kD b with ⟨b,_⟩|⟨rfl,z,c,e⟩
  .exact h.pos x b
  .rw[<-e];exact h.pos z c
 un:=MI h.un
 fl:=λx b=>by rcases kD b with ⟨b,_⟩|⟨rfl,_⟩<;>first|exact h.fl x b|exact A
 ac:=λx b e p y j r u=>by
  have m:∃z∈t.2.2.1,z.1=y.1/\z.2.1=y.2.1:=by
   rcases kD j with ⟨j,_⟩|⟨rfl,z,c,q⟩
   .exact⟨y,j,rfl,rfl⟩
   .exact⟨z,c,q,f z c q⟩
  obtain⟨z,c,o,v⟩:=m;rw[<-o];rcases kD b with ⟨b,_⟩|⟨rfl,_⟩
  .exact h.ac x b e p z c (by rw[o,r]) (by rw[v,u])
  .exact i e p z c (by rw[o,r]) (by rw[v,u])
theorem tW.zero{k s:Nat}{t:Tb}(h:tW k s t)(n:Nd)(b:n.1=0):im n t.2.2.1=t.2.2.1:=Eb λz a e=>by have:=h.pos z a;omega
def Ec(L:List Nd)(id:Int)(b:Bool):Prop:=∀z∈L,z.1=id->z.2.1=b
theorem Ec.set{L:List Nd}{id:Int}{b:Bool}(h:Ec L id b){n:Nd}(d:Ec L n.1 n.2.1):Ec (im n L) id b:=λz a e=>by
 rcases kD a with ⟨a,_⟩|⟨rfl,w,c,q⟩
 .exact h z a e
 .rw[<-d w c q];exact h w c (by rw[q,e])
theorem tW.file{k s:Nat}{t:Tb}(h:tW k s t)(n:Nd)(g:n.2.2.2.2.1.length<=1048576)(i:n.2.1=false)(d:n.2.2.2.2.2.1=[])(b:Ec t.2.2.1 n.1 false):tW k s (n0 t n) :=
 h.set (a:=0) n g (λe c=>by rw[d] at c;cases c) (λ_=>d) (λz f e=>by rw[i];exact b z f e) (λe c=>by rw[d] at c;cases c) (λz f e=>by rw[d];exact jO _)
theorem tW.dir{k s a:Nat}{t:Tb}(h:tW k s t){id:Int}{d:Nd}(b:dh t.2.2.1 id=some d)(j:d.2.1=true)(m:List pX)(c:∀e∈m,e.1.length<=32)
  (f:∀e∈m,∀y∈t.2.2.1,y.1=e.2.1->y.2.1=true->d.1<y.1) (l:m.length<=d.2.2.2.2.2.1.length+a):tW k (s+a) (n0 t<|Iq d m) :=
 h.set (Iq d m) (h.d d (lQ b).1) c (λq=>by rw[show(Iq d m).2.1=d.2.1 from rfl,j] at q;cases q)
  (λz g e=>by have i:z.1=d.1:=e;rw[h.un.eq g (lQ b).1 i];rfl) f
  (λz g e=>by have i:z.1=d.1:=e;rw[h.un.eq g (lQ b).1 i];exact l)
theorem tW.PR{k s:Nat}{t:Tb}(h:tW k s t){id:Int}{d:Nd}(b:dh t.2.2.1 id=some d)(f:d.2.1=true)(g:aE):tW k s (n0 t<|Iq d<|d.2.2.2.2.2.1.flatMap<|Ay g) :=
 h.dir (a:=0) b f _ (λe c=>h.nm d (lQ b).1 e (Az c)) (λe c=>h.ac d (lQ b).1 e (Az c)) (Ir _ _)
theorem KZ{l:List pX}{e x:pX}{k:Nat}(h:x∈l.take k++[e]++l.drop k):x=e\/x∈l:=by
 simp only[lW,gD] at h;rcases h with (h|h)|h
 .exact .inr (I7 h)
 .exact .inl h
 .exact .inr (Jk h)
theorem tW.with{k s:Nat}{t:Tb}(h:tW k s t){id:Int}{d:Nd}(b:dh t.2.2.1 id=some d)(i:d.2.1=true)(e:pX)(j:e.1.length<=32)
  (c:∀y∈t.2.2.1,y.1=e.2.1->y.2.1=true->d.1<y.1) {m:List pX} (g:∀x∈m,x=e\/x∈d.2.2.2.2.2.1) (f:m.length<=d.2.2.2.2.2.1.length+1):tW k (s+1) (n0 t<|Iq d m) :=
 h.dir b i _ (λx a=>by rcases g x a with rfl|a<;>first|exact j|exact h.nm d (lQ b).1 x a)
  (λx a=>by rcases g x a with rfl|a<;>first|exact c|exact h.ac d (lQ b).1 x a) f
theorem tW.push{k s:Nat}{t:Tb}(h:tW k s t)(b:Bool):tW (k+1) s (t.1,t.2.1+1,t.2.2.1++[(t.2.1,b,(1:Int),(0:Int),([]:aE),([]:List pX),())],()) where
 l:=by have:=h.l;simp;omega
 s:=by rw[G0];exact h.s
 d:=λx c=>by
  rcases lW.1 c with c|c
  .exact h.d x c
  .rw[gD.1 c];exact jO _
 nm:=λx c=>by
  rcases lW.1 c with c|c
  .exact h.nm x c
  .rw[gD.1 c];intro e f;cases f
 ids:=λx c=>by
  rcases lW.1 c with c|c
  .have:=h.ids x c;dsimp only;omega
  .rw[gD.1 c];dsimp only;omega
 nx:=by have:=h.nx;constructor<;>dsimp only<;>omega
 pos:=λx c=>by
  rcases lW.1 c with c|c
  .exact h.pos x c
  .rw[gD.1 c];exact h.nx.1
 un:=List.pairwise_append.2 ⟨h.un,Je _ _,λa i b j=>by rw[gD.1 j];have:=h.ids a i;dsimp only;omega⟩
 fl:=λx c=>by
  rcases lW.1 c with c|c
  .exact h.fl x c
  .rw[gD.1 c];intro _;rfl
 ac:=λx c e f y g m n=>by
  rcases lW.1 c with c|c
  .rcases lW.1 g with g|g
   .exact h.ac x c e f y g m n
   .rw[gD.1 g];exact h.ids x c
  .rw[gD.1 c] at f;cases f
theorem RO:Er 0:=⟨by decide,by decide⟩
variable {k s:Nat} {t:Tb}
theorem tW.z(h:tW k s t)(id:Int):((dh t.2.2.1 id).getD zN).2.2.2.2.1.length<=1048576:=by
 cases e:dh t.2.2.1 id with
 | none=>exact jO _
 | some x=>exact h.d x (lQ e).1
end Go.Ge
namespace Go.Ge
variable [Lp] {k s:Nat} {t:Tb}
end Go.Ge
namespace Go.Ge
variable [Lp] {k s:Nat} {t:Tb}
end Go.Ge
namespace Go.Ge
variable [Lp] {k s:Nat} {t:Tb}
def Ok{a:Type}(Q:a->Prop)(o:Option a):Prop:=∃y,o=some y/\Q y
theorem Ok.ob{a b:Type}{Q:b->Prop}{o:Option a}{x:a}{f:a->Option b}(h:o=some x)(k:Ok Q (f x)):Ok Q (ab o f):=by rw[h];exact k
theorem Ok.ok{α a:Type}{Q:a->Prop}{R:α->Prop}{o:Option α}{f:α->Option a}(h:Ok R o)(k:∀x,R x->Ok Q (f x)):Ok Q (ab o f):=by
 obtain⟨x,b,c⟩:=h;rw[b];exact k x c
theorem Ok.av{d:Type}{Q:d->Prop}{c:Bool}{a b:Option d}(e:Ok Q a)(f:Ok Q b):Ok Q (Go.Ge.av c a b):=by
 cases c
 .exact f
 .exact e
theorem Ok.some{a:Type}{Q:a->Prop}{y:a}(h:Q y):Ok Q (some y):=⟨y,rfl,h⟩
theorem Ok.need{d:Type}{Q:d->Prop}{c:Bool}{a b:Option d}(e:c=true)(f:Ok Q a):Ok Q (Go.Ge.av c a b):=by rw[e];exact f
theorem Ed{a b:Type}{o:Option a}{x:a}{f:a->Option b}(h:o=some x):ab o f=f x:=by rw[h];rfl
def qJ(r:Rs):Prop:=Er r.1/\r.2.2.2.1.length<=1000000
def PS(k:Nat)(f:Fs):Prop:=tW k k f.1/\f.2.1.length<=k
theorem PS.mono{k b:Nat}{f:Fs}(h:PS k f)(a:k<=b):PS b f:=⟨h.1.mono a a,iA h.2 a⟩
end Go.Ge
namespace Go.Ge
variable [Lp] {k:Nat}
abbrev T3(k:Nat)(y:(Rs×ah)×Fs×ah):Prop:=qJ y.1.1/\PS k y.2.1
def Q1(a:oa):Prop:=a.2.1.length<=4096/\a.2.2.1.length<=4096/\a.2.2.2.2.2.2.1.length<=4096
end Go.Ge
namespace Go.Ge
variable [Lp] {k:Nat}
theorem yq(f:Fs)(id:Int)(m:f.1.2.2.1.length<=1000000):gU ((id,()),f,())=some (((dh f.1.2.2.1 id).getD zN,()),f,()):=by
 unfold gU;rcases KU (f:=gM ((id,()),f,())) f.1.2.2.1 (λi=>((i,()),zN,())) (λ_ x=>decide (x.1=id)) (λi x=>(1,((i:Int),()),x,())) (0,((f.1.2.2.1.length:Int),()),zN,()) (by omega)
  (λi x b c a=>by
   unfold gM;dsimp only;have d:within (i:Int) (len f.1.2.2.1)=true:=aT (by omega) (by rw[cX];omega);rw[nL,oe c,ae,d,ae,bb b,ag,ae,ag,a];by_cases h:x.1=id
   .rw[fL h];simp[h,av]
   .rw[cc h];simp[h,av])
  (by unfold gM;dsimp only;rw[cP];rfl) with ⟨i,x,b,g,j,h⟩|⟨l,h⟩
 .refine ob h ?_;have e:dh f.1.2.2.1 id=some x:=sz b g j;rw[e];rfl
 .refine ob h ?_;have e:dh f.1.2.2.1 id=none:=yo l;rw[e];rfl
abbrev Fl:=aE×Bool×aE×ah
theorem Is{L:List Nd}{id:Int}(h:∀x∈L,x.1≠id):dh L id=none:=by
 unfold dh;rw[List.find?_eq_none];intro x a;simp[h x a]
def LQ(f:Fs)(i:Nat)(a:List Fl):(ah×Int×ah)×(List Fl)×(ah×ah×ah)×(Int×Int×ah×ah)×(List Hn)×(List Nd)×ah:=(((),(i:Int),()),a,((),(),()),(f.1.1,f.1.2.1,(),()),f.2.1,f.1.2.2.1,())
end Go.Ge
namespace Go.Ge
variable [Lp]
end Go.Ge
namespace Go.Ge
variable [Lp] {k:Nat}
abbrev TD:=Int×Int×Int×oa×ah
abbrev Dn:=oa×Rs×ah
abbrev Rn:=Bool×List Dn×Int×Bool×Bool×oa×ah
theorem nM(L:List Dn)(a:Int)(c d:Bool)(b:oa):fy ((),(true,L,a,c,d,b,()),())=some ((),(true,L,0,false,false,b,()),()):=rfl
theorem sB(L:List Dn)(a:Int)(c:Bool)(b:oa):db ((),(true,L,a,c,true,b,()),())=some ((b,true,()),(true,L,a,c,true,b,()),()):=rfl
theorem tQ(r:Rs)(h:qJ r):iJ (r,())=some (r,()):=by
 unfold iJ ep;dsimp only;rw[Ea (by have:=h.2;omega)];rfl
theorem yr(L:List Dn)(a:Int)(c:Bool)(b:oa)(r:Rs)(h:qJ r)(d:L.length<=1000):dJ ((r,()),(true,L,a,c,true,b,()),())=some ((0,()),(true,L++[(b,r,())],a,c,false,b,()),()):=by
 unfold dJ;refine ob (sB L a c b) ?_;refine ob (tQ r h) ?_;dsimp only;rw[b9<|by simp only[p4];omega];rfl
theorem K0(L:List Dn)(o a:oa):gl ((o,()),(true,L,(L.length:Int),false,false,a,()),())=some (((14,0,[],[],()),()),(true,L,(L.length:Int),true,true,o,()),()):=by
 unfold gl;refine ob rfl ?_;dsimp only;rw[show aQ (L.length:Int) (len L)=true from fL rfl];rfl
theorem K1(L:List Dn)(i:Nat)(o a:oa)(r:Rs)(h:L[i]?=some (o,r,()))(c:qJ r)(e:L.length<=1000) :
  gl ((o,()),(true,L,(i:Int),false,false,a,()),())=some ((r,()),(true,L,((i+1:Nat):Int),false,false,a,()),()):=by
 have f:=cE h;have b:within (i:Int) (len L)=true:=aT (by omega) (by rw[cX];omega);unfold gl;refine ob rfl ?_;dsimp only;rw[show aQ (i:Int) (len L)=false from cc (by rw[cX];omega),cg,af,af,af,b,ae,Ed (bb h)];dsimp only;have d:(an (aQ o.1 o.1)<|an (ie o.2.1 o.2.1)<|an (ie o.2.2.1 o.2.2.1)<|an (aQ o.2.2.2.1 o.2.2.2.1)<|an (aQ o.2.2.2.2.1 o.2.2.2.2.1)<|an (aQ o.2.2.2.2.2.1 o.2.2.2.2.2.1)<|an (ie o.2.2.2.2.2.2.1 o.2.2.2.2.2.2.1)<|an (aQ o.2.2.2.2.2.2.2.1 o.2.2.2.2.2.2.2.1)<|an (aQ o.2.2.2.2.2.2.2.2.1 o.2.2.2.2.2.2.2.2.1) true)=true:=by
  simp[an,aQ,ie]
 rw[d,cg,af,bB (by omega),show dC .i64 ((i+1:Nat):Int) 1=(i:Int) from by rw[eZ (by omega)<|by omega];omega,b,ae,Ed (bb h)];exact ob (tQ r c) rfl
structure RP (l:List TD):Prop where
 n:l.length<=20
 op:∀a∈l,Q1 a.2.2.2.1
end Go.Ge
namespace Go.Ge
variable [Lp]
abbrev Oe:aE:=[116,109,112]
abbrev fF:aE:=[102]
abbrev fX:aE:=[49,46,49,46,120]
abbrev fT:aE:=[116,109,112,47,49,46,49,46,120]
abbrev l4(id:Int)(m:List pX):Nd:=(id,true,(1:Int),(0:Int),([]:aE),m,())
abbrev qK(id l h:Int)(d:aE):Nd:=(id,false,l,h,d,([]:List pX),())
abbrev rR(k:Int)(p q:aE)(h:Int)(d:aE):oa:=(k,p,q,h,(0:Int),(0:Int),d,(0:Int),(0:Int),())
abbrev jT(n:Int):Rs:=((0:Int),n,([]:aE),([]:List aE),())
theorem MJ(o:Int)(p:aE)(f:Fs){v a id:Int}{b:aE}{c:Tb}{r:Rs}{d:Fs}(e:fV (rR 3 p [] 0 [],())=some (true,()))
  (g:jH ((o,()),f,())=some ((v,()),f,())) (h:v<8) (i:cJ ((p,()),f,())=some ((a,b,0,()),f,()))
  (j:cD ((a,b,false,()),f.1,())=some ((id,0,()),c,())) (l:dc ((o,id,()),(c,f.2.1,()),())=some ((r,()),d,())) :
  bu ((o,rR 3 p [] 0 [],()),f,())=some ((r,()),d,()):=by
 unfold bu;refine ob e ?_;dsimp only;simp only[show aQ (3:Int) 5=false from rfl,show aQ (3:Int) 6=false from rfl,show aQ (3:Int) 7=false from rfl,show aQ (3:Int) 8=false from rfl,show aQ (3:Int) 9=false from rfl,show aQ (3:Int) 13=false from rfl,show aQ (3:Int) 3=true from rfl,show aQ (3:Int) 1=false from rfl,show aQ (3:Int) 2=false from rfl,show aQ (3:Int) 11=false from rfl,cg,ae,af];refine ob g ?_;dsimp only;rw[mI h,af];refine ob i ?_;rw[show nt (aQ (0:Int) 0)=false from rfl,af];refine ob j ?_;rw[show nt (aQ (0:Int) 0)=false from rfl,af];exact ob l rfl
theorem K2(t:Tb)(a:Int)(c:aE)(b:Bool){d w:Nd}{u:Int}(j:t.2.2.1.length<=1000)(l:0<=t.2.1/\t.2.1<=1000000)(e:cq ((a,c,()),t,())=some ((d,0,()),t,()))
  (f:dW (d,c,())=some (0,())) (g:cl (t,())=some (u,())) (h:aK .i64 u 64<=t.1) (i:gK (d,(c,t.2.1,()),())=some (w,())) :
  cD ((a,c,b,()),t,())=some ((t.2.1,0,()),(t.1,t.2.1+1,im w t.2.2.1++[(t.2.1,b,(1:Int),(0:Int),([]:aE),([]:List pX),())],()),()):=by
 unfold cD;refine ob e ?_;rw[show nt (aQ (0:Int) 0)=false from rfl,af];refine ob f ?_;dsimp only;rw[show cW (0:Int) 0=false from rfl,af,mI (by rw[cX];omega),af];refine ob g ?_;dsimp only;rw[aN h,af,dH (by omega) (by omega)];refine ob i (ob (wz (t.1,t.2.1+1,t.2.2.1,()) w<|by dsimp only;omega) ?_);have:=yp w t.2.2.1;dsimp only;rw[b9<|by simp only[p4];omega,ae];rfl
theorem It(t:Tb)(id u:Int)(d:Nd)(b:aE)(q:t.2.2.1.length<=1000)(l:bP ((id,0,0,()),t,())=some ((d,0,()),t,()))(h:d.2.2.2.2.1=[])(r:b.length<=1000)
  (m:cl (t,())=some (u,())) (v:(b.length:Int)<=t.1-u) (i:t.1-u<=1000000000000000) (n:b=[]->n0 t (d.1,d.2.1,d.2.2.1,d.2.2.2.1,b,d.2.2.2.2.2)=t) :
  cp ((id,0,b,()),t,())=some ((0,()),n0 t (d.1,d.2.1,d.2.2.1,d.2.2.2.1,b,d.2.2.2.2.2),()):=by
 unfold cp;refine ob l ?_;have f:aK .i64 0 (len b)=b.length:=by rw[cX,dH (by omega) (by omega)];omega
 dsimp only;rw[show nt (aQ (0:Int) 0)=false from rfl,af,show nt (cW (1048576:Int) 0)=true from rfl,ae,f,aN (by omega),af];by_cases c:b=[]
 .rw[iV c,ae,n c]
 .rw[eP c,af,h,show len ([]:aE)=0 from rfl];have g:imax 0 (b.length:Int)=b.length:=by
   unfold imax;cases i:decide ((0:Int)<b.length) with
   | false=>have:=of_decide_eq_false i;show(0:Int)=b.length;omega
   | true=>rfl
  have e:eW ((d,(b.length:Int),()),t,())=some ((0,()),t,()):=by
   unfold eW;dsimp only;rw[aN<|by omega,af];refine ob m ?_;dsimp only;rw[h,show len ([]:aE)=0 from rfl,eZ (by omega) (by omega),eZ (by omega) (by omega),aN (by omega)];rfl
  have a:=KX [] (b.length:Int) (jO _) (by omega);have j:(Ax [] (b.length:Int)).length=b.length:=by rw[Ip];simp
  generalize Ax [] (b.length:Int)=y at a j;rw[g];refine ob e ?_;dsimp only;rw[show nt (aQ (0:Int) 0)=false from rfl,af];refine ob a ?_;dsimp only;rw[show inside 0 0 (len y)=true from cj (by omega) (by omega) (by rw[cX];omega),ae];have o:sub y 0 (minus 0 0)=[]:=by simp[sub,minus]
  have p:sub y (b.length:Int) (minus (len y) (b.length:Int))=[]:=by simp[sub,minus,cX,j]
  rw[o,p,b9 (by simp;omega),ae,show inside (b.length:Int) (len y) (len y)=true from cj (by omega) (by rw[cX];omega) (wK _),ae,b9 (by simp[la];omega),ae,
   show app (app [] b) []=b from by simp[la]]
  exact ob (wz t _<|by omega) rfl
theorem MK(o h:Int)(b:aE)(f:Fs){id:Int}{a:Tb}(d:gr ((o,h,()),f,())=some ((id,()),f,()))(c:id≠0)
  (e:cp ((id,0,b,()),f.1,())=some ((0,()),a,())) :
  bu ((o,rR 7 [] [] h b,()),f,())=some ((jT 0,()),(a,f.2.1,()),()):=by
 have g:fV (rR 7 [] [] h b,())=some (true,()):=by
  obtain rfl:‹Lp›=Lp.y3:=Lp.one _ _;kernel_rfl
 have i:cC ((o,rR 7 [] [] h b,()),f,())=some ((jT 0,()),(a,f.2.1,()),()):=by
  unfold cC;refine ob d ?_;dsimp only;rw[cc c];simp only[show aQ (7:Int) 5=false from rfl,show aQ (7:Int) 6=false from rfl,show aQ (7:Int) 7=true from rfl,ae,af];exact ob e rfl
 unfold bu;refine ob g ?_;dsimp only;simp only[show aQ (7:Int) 5=false from rfl,show aQ (7:Int) 6=false from rfl,show aQ (7:Int) 7=true from rfl,cg,ae,af];exact ob i rfl
abbrev gW:aE:=[98,108,111,98]
abbrev Bl:=aE×aE
theorem qL(s:aE)(j:∀b∈s,b≠0/\b≠47)(a:3<=s.length)(l:s.length<=32):gu (s,())=some (true,()):=by
 unfold gu;rcases KU (f:=iu (s,())) s (λi=>((false,i,()),())) (λ_ c=>(aQ (u8 c) 0||aQ (u8 c) 47)) (λi _=>(1,(false,(i:Int),()),())) (0,(false,(s.length:Int),()),()) (by omega)
  (λi c m n d=>by
   unfold iu;dsimp only;rw[nL,oe n,ae,bb m,ag,ag,d];cases a:aQ (u8 c) 0
   .cases l:aQ (u8 c) 47<;>rfl
   .rfl)
  (by unfold iu;dsimp only;rw[cP];rfl) with ⟨i,x,hx,g,q,h⟩|⟨r,h⟩
 .have:=j x (od hx);rw[Pl,KS,uc this.1,uc this.2] at g;cases g
 .refine ob h ?_;dsimp only;have o:ie s [46]=false:=eP λe=>by rw[e] at a;exact absurd a (by decide)
  have p:ie s [46,46]=false:=eP λe=>by rw[e] at a;exact absurd a (by decide)
  rw[show oW 1 (len s)=true from qF (by rw[cX];omega),show oW (len s) 32=true from qF (by rw[cX];omega),o,p];rfl
theorem tR{n:Nd}(h:0<n.2.2.1):∀L:List Nd,im n L=L.map λy=>if y.1=n.1 then n else y
 | []=>rfl
 | y::r=>by
   have a:=tR h r;unfold im at a⊢;rw[Cz,a,fY];unfold nu;by_cases q:y.1=n.1
   .rw[bp<|by simpa using q,bH (.inl h),bH q];rfl
   .rw[bH q,bp q];rfl
theorem oN(y:Nd)(r:List Nd)(id:Int):dh (y::r) id=if y.1=id then some y else dh r id:=by
 unfold dh;rw[List.find?_cons];by_cases q:y.1=id
 .rw[oe q,bH q]
 .rw[uc q,bp q]
theorem Ee(n:Nd)(id:Int):∀L:List Nd,dh (L.map λy=>if y.1=n.1 then n else y) id=if id=n.1 then(dh L id).map (λ_=>n) else dh L id
 | []=>by rw[CH];by_cases h:id=n.1<;>simp[h,dh]
 | y::r=>by
   have a:=Ee n id r;rw[fY,oN,oN,a];by_cases h:id=n.1
   .by_cases q:y.1=n.1
    .simp[h,q]
    .simp[h,q]
   .by_cases q:y.1=n.1
    .have:n.1≠id:=λe=>h e.symm;have b:y.1≠id:=by rw[q];exact this
     simp[h,q,this,b]
    .simp[h,q]
theorem AA(x:Nd)(id:Int):∀L:List Nd,dh (L++[x]) id=(match dh L id with|some y=>some y|none=>if x.1=id then some x else none)
 | []=>by rw[rU,oN];rfl
 | y::r=>by
   rw[wF,oN,AA x id r,oN];by_cases q:y.1=id
   .rw[bH q,bH q]
   .rw[bp q,bp q]
theorem qM{n:Nd}(h:0<n.2.2.1)(L:List Nd)(id:Int):dh (im n L) id=if id=n.1 then(dh L id).map (λ_=>n) else dh L id:=by rw[tR h,Ee]
theorem qN{n:Nd}(h:0<n.2.2.1)(L:List Nd):(im n L).length=L.length:=by rw[tR h,p5]
theorem oO{n:Nd}(h:0<n.2.2.1){L:List Nd}{Q:Nd->Prop}(a:∀x∈L,Q x)(b:Q n):∀x∈im n L,Q x:=by
 rw[tR h];intro x c;obtain⟨y,d,rfl⟩:=lY.1 c;by_cases q:y.1=n.1
 .rw[bH q];exact b
 .rw[bp q];exact a y d
theorem G1(t:Tb)(f:t.2.2.1.length<=1000)(b:∀x∈t.2.2.1,x.2.2.2.2.1.length<=1000):∃u:Int,cl (t,())=some (u,())/\0<=u/\u<=1064*t.2.2.1.length:=by
 let v:Nat->Int:=λi=>((t.2.2.1.take i).map λx=>(64+x.2.2.2.2.1.length:Int)).sum
 have hv:∀i,i<=t.2.2.1.length->0<=v i/\v i<=1064*i:=by
  intro i;induction i with
  | zero=>exact λ_=>⟨wK _,wK _⟩
  | succ i c =>
    intro a;have h:=c (by omega);have e:v (i+1)=v i+(64+(t.2.2.1[i]'(by omega)).2.2.2.2.1.length):=by
     show((t.2.2.1.take<|i+1).map _).sum=_
     rw[Hc<|by omega,oY,Ju];simp[v]
    have:=b _ (Js<|show i<t.2.2.1.length by omega);rw[e];omega
 have d:Loop (ff (t,())) (((0:Int),(0:Int),()),())=some ((v t.2.2.1.length,(t.2.2.1.length:Int),()),()):=by
  refine uQ (λi:Nat=>((v i,(i:Int),()),())) t.2.2.1.length 0 (λi _ a=>?_) ?_
  .have a:i<t.2.2.1.length:=by omega
   have g:=hv i (by omega);have j:=b _ (Js a);have e:v (i+1)=v i+(64+(t.2.2.1[i]).2.2.2.2.1.length):=by
    show((t.2.2.1.take<|i+1).map _).sum=_
    rw[Hc a,oY,Ju];simp[v]
   unfold ff;dsimp only;rw[dt a,ae,bb (nP a),ag,bS,bB (by omega),cX,show aK .i64 (v i) 64=v i+64 from dH (by omega) (by omega),show aK .i64 (v i+64) ((t.2.2.1[i]).2.2.2.2.1.length:Int)=v i+64+(t.2.2.1[i]).2.2.2.2.1.length from dH (by omega) (by omega),e];rw[Int.add_assoc]
  .rw[kL];unfold ff;dsimp only;rw[cP];rfl
 have h:=hv t.2.2.1.length (cU _);exact⟨_,by unfold cl;exact ob d rfl,h.1,h.2⟩
theorem K3(t:Tb)(a:Int)(s:aE){d:Nd}(f:t.2.2.1.length<=1000)(b:dh t.2.2.1 a=some d)(c:d.2.1=true)(e:gu (s,())=some (true,())) :
  cq ((a,s,()),t,())=some ((d,0,()),t,()):=by
 have h:=B4 t a (by omega);rw[b] at h;unfold cq;refine ob h ?_;dsimp only[Option.isSome,Option.getD];rw[cg,af,c,cg,af];exact ob e rfl
theorem K4(t:Tb)(id a b:Int){d:Nd}(f:t.2.2.1.length<=1000)(c:dh t.2.2.1 id=some d)(e:d.2.1=false)(g:0<=a)(i:0<=b) :
  bP ((id,a,b,()),t,())=some ((d,0,()),t,()):=by
 have h:=B4 t id (by omega);rw[c] at h;unfold bP;refine ob h ?_;dsimp only[Option.isSome,Option.getD];rw[cg,af,e,af,aN (by omega),aN (by omega)];rfl
theorem Nw(t:Tb)(a:Int)(s:aE){d:Nd}{e:pX}(b:t.2.2.1.length<=1000)(c:dh t.2.2.1 a=some d)(f:d.2.1=true)(g:gu (s,())=some (true,()))
  (j:d.2.2.2.2.2.1.length<=1000) (h:(d.2.2.2.2.2.1.find? λe=>decide (e.1=s))=some e) (i:e.2.1≠0):bQ ((a,s,()),t,())=some ((e.2.1,0,()),t,()):=by
 unfold bQ;refine ob (K3 t a s b c f g) ?_;rw[show nt (aQ (0:Int) 0)=false from rfl,af];refine ob (Aw d s<|by omega) ?_;have:sA d s=e.2.1:=by unfold sA;rw[h]
 dsimp only;rw[this,cc i,af]
theorem K5(t:Tb)(id:Int){d:Nd}(a:t.2.2.1.length<=1000)(b:dh t.2.2.1 id=some d)(c:d.2.1=false)(e:d.2.2.2.1=0) :
  dc ((1,id,()),(t,[],()),())=some ((jT 1,()),(n0 t (d.1,d.2.1,d.2.2.1,1,d.2.2.2.2),[(1,1,id,())],()),()):=by
 have g:gL ((id,()),t,())=some ((0,()),n0 t (d.1,d.2.1,d.2.2.1,1,d.2.2.2.2),()):=by
  unfold gL;refine ob (K4 t id 0 0 a b c (by omega)<|by omega) ?_;rw[show nt (aQ (0:Int) 0)=false from rfl,af];dsimp only;rw[e,show oW (1048576:Int) 0=false from rfl,af,show aK .i64 0 1=1 from rfl];exact ob (wz t (d.1,d.2.1,d.2.2.1,1,d.2.2.2.2)<|by omega) rfl
 have h:∀f:Fs,Loop (jo (((1:Int),id,()),f,())) (((1:Int),(0:Int),()),((),(),()),(t.1,t.2.1,(),()),([]:List Hn),(im (d.1,d.2.1,d.2.2.1,1,d.2.2.2.2) t.2.2.1),()) =
   some (((1:Int),(0:Int),()),((),(),()),(t.1,t.2.1,(),()),([]:List Hn),(im (d.1,d.2.1,d.2.2.1,1,d.2.2.2.2) t.2.2.1),()):=by
  intro f;generalize im (d.1,d.2.1,d.2.2.1,1,d.2.2.2.2) t.2.2.1=L;have:jo ((1,id,()),f,()) (((1:Int),(0:Int),()),((),(),()),(t.1,t.2.1,(),()),([]:List Hn),L,())=some (.inr (((1:Int),(0:Int),()),((),(),()),(t.1,t.2.1,(),()),([]:List Hn),L,())):=by
   obtain rfl:‹Lp›=Lp.y3:=Lp.one _ _;kernel_rfl
  rw[bm,this];rfl
 unfold dc;refine ob g ?_;rw[show nt (aQ (0:Int) 0)=false from rfl,af];refine ob (h _) ?_;dsimp only;rw[b9<|show([]:List Hn).length+_<=4294967296 by simp,ae];rfl
theorem FV(t:Tb)(id:Int):gr ((1,1,()),(t,[(1,1,id,())],()),())=some ((id,()),(t,[(1,1,id,())],()),()):=by
 obtain rfl:‹Lp›=Lp.y3:=Lp.one _ _;kernel_rfl
theorem Nx(t:Tb):jH ((1,()),(t,[],()),())=some ((0,()),(t,[],()),()):=by
 obtain rfl:‹Lp›=Lp.y3:=Lp.one _ _;kernel_rfl
theorem ML(t:Tb)(id:Int){d:Nd}(f:t.2.2.1.length<=1000)(a:dh t.2.2.1 id=some d)(b:d.2.2.2.1=1) :
  ir ((1,1,()),(t,[(1,1,id,())],()),())=some ((),(n0 t (d.1,d.2.1,d.2.2.1,0,d.2.2.2.2),[],()),()):=by
 have c:gI ((id,()),t,())=some ((0,()),n0 t (d.1,d.2.1,d.2.2.1,0,d.2.2.2.2),()):=by
  have h:=B4 t id (by omega);rw[a] at h;unfold gI;refine ob h ?_;dsimp only[Option.isSome,Option.getD];rw[cg,af,b,show aQ (1:Int) 0=false from rfl,af,show dC .i64 1 1=0 from rfl];exact ob (wz t (d.1,d.2.1,d.2.2.1,0,d.2.2.2.2)<|by omega) rfl
 have hs:fJ ((1,1,()),(t,[(1,1,id,())],()),()) (((),(0:Int),()),([]:List Hn),((),(),()),(t.1,t.2.1,(),()),[(1,1,id,())],t.2.2.1,()) =
   some (.inl (((),(1:Int),()),([]:List Hn),((),(),()),(t.1,t.2.1,(),()),[(1,1,id,())],im (d.1,d.2.1,d.2.2.1,0,d.2.2.2.2) t.2.2.1,())):=by
  unfold fJ;dsimp only;refine(congrArg fh (?_:_=some (.inl (((),(1:Int),()),([]:List Hn),((),(),()),(t.1,t.2.1,(),()),[(1,1,id,())],im (d.1,d.2.1,d.2.2.1,0,d.2.2.2.2) t.2.2.1,())))).trans (bS _);rw[show cW (0:Int) (len [((1:Int),(1:Int),id,())])=true from rfl,ae,show within 0 (len [((1:Int),(1:Int),id,())])=true from rfl,ae];refine ob (show idx [((1:Int),(1:Int),id,())] (0:Int)=some _ from rfl) ?_;refine ob (x:=true) rfl ?_;rw[ae,ae];refine ob (ob (show idx [((1:Int),(1:Int),id,())] (0:Int)=some _ from rfl)<|ob c rfl) ?_;rfl
 have e:∀L,fJ ((1,1,()),(t,[(1,1,id,())],()),()) (((),(1:Int),()),([]:List Hn),((),(),()),(t.1,t.2.1,(),()),[(1,1,id,())],L,()) =
  some (.inr (((),(1:Int),()),([]:List Hn),((),(),()),(t.1,t.2.1,(),()),[(1,1,id,())],L,())):=λ_=>rfl
 unfold ir;refine ob (show Loop _ _=some _ from by rw[bm];dsimp only;rw[hs];show Loop _ _=_;rw[bm,e];rfl) ?_;rfl
def vU(s:aE):Prop:=(∀b∈s,b≠0/\b≠47)/\3<=s.length/\s.length<=32
def jZ(s:aE):aE:=[98,108,111,98,47]++s
def eB(m:List pX)(s:aE):Option pX:=m.find? λe=>decide (e.1=s)
def RQ:Option Int->List Hn
 | none=>[]
 | some id=>[(1,1,id,())]
structure FB (h:Option Int) (B:List Bl) (m:List pX) (f:Fs):Prop where
 K6:f.1.1=16777216
 next:f.1.2.1=(B.length:Int)+3
 hs:f.2.1=RQ h
 len:f.1.2.2.1.length=B.length+2
 root:dh f.1.2.2.1 1=some (l4 1 [(gW,2,())])
 dir:dh f.1.2.2.1 2=some (l4 2 m)
 MM:m.length=B.length
 MN:∀(i:Nat) b,B[i]?=some b->eB m b.1=some (b.1,(i:Int)+3,())
 Q2:∀s,(∀b∈B,b.1≠s)->eB m s=none
 file:∀(i:Nat) b,B[i]?=some b->dh f.1.2.2.1 ((i:Int)+3)=some (qK ((i:Int)+3) 1 (if h=some ((i:Int)+3) then 1 else 0) b.2)
 ids:∀x∈f.1.2.2.1,x.1<(B.length:Int)+3
 data:∀x∈f.1.2.2.1,x.2.2.2.2.1.length<=1000
 each:∀e∈m,∃(i:Nat) (b:Bl),B[i]?=some b/\e=(b.1,(i:Int)+3,())
theorem MO{L:List Nd}{k id:Int}(h:∀x∈L,x.1<k)(b:k<=id):dh L id=none:=by
 refine Is λx a e=>?_;have:=h x a;omega
theorem AB{s:aE}(h:vU s):(jZ s).length<=96:=by
 have:=h.2.2;unfold jZ;rw[l9];simp only[gA,ni];omega
theorem vo{s:aE}(h:vU s):parts (jZ s)=[gW,s]:=by
 have a:47∉s:=λe=>(h.1 47 e).2 rfl;have:jZ s=gW++47::s:=rfl;unfold parts;rw[bp<|by rw[this];simp[gW],this,FR gW (by decide) s,B1 s a]
theorem MP{s:aE}(h:vU s):vT s=true:=by
 have a:=h.2.1;unfold vT;refine oe ⟨λe=>?_,λe=>?_,by omega,h.2.2,λe=>(h.1 0 e).1 rfl⟩<;>(rw[e] at a;exact absurd a (by decide))
theorem K7{s:aE}(h:vU s):iO (jZ s,())=some (true,()):=by
 have a:=AB h;have b:vT gW=true:=by decide
 rw[Io (jZ s)<|by omega,vo h];simp[b,MP h,a]
theorem K8(s:aE):ie (jZ s) []=false:=eP (by simp[jZ])
theorem K9{s:aE}(h:vU s)(k:Int)(a:k=3\/k=4):fV (rR k (jZ s) [] 0 [],())=some (true,()):=by
 unfold fV;dsimp only;have e:(av (aQ k 1) ((aQ k 1,()),()) ((((av (aQ k 2) ((aQ k 2,()),()) ((((av (aQ k 3) ((aQ k 3,()),()) ((((av (aQ k 4) ((aQ k 4,()),()) ((aQ k 11,()),())).1).1,()),())).1).1,()),())).1).1,()),())).1.1=true:=by
  rcases a with rfl|rfl<;>rfl
 rw[e,ae,K8,cM,ae];exact ob (ob (K7 h) rfl) rfl
theorem Pm{h:Option Int}{B:List Bl}{m:List pX}{f:Fs}(b:FB h B m f)(g:B.length<=900):gS (([gW],()),f,())=some ((2,0,()),f,()):=by
 have i:=b.len;have a:bQ ((1,gW,()),f.1,())=some ((2,0,()),f.1,()) :=
  Nw f.1 1 gW (e:=(gW,2,())) (by omega) b.root rfl (qL _ (by decide) (by decide)<|by decide) (by show 1<=1000;decide) rfl (by decide)
 have c:gJ (([gW],()),f,()) (((0:Int),(0:Int),(1:Int),(0:Int),()),((),(),()),(f.1.1,f.1.2.1,(),()),f.2.1,f.1.2.2.1,()) =
   some (.inl (((0:Int),(0:Int),(2:Int),(1:Int),()),((),(),()),(f.1.1,f.1.2.1,(),()),f.2.1,f.1.2.2.1,())):=by
  unfold gJ;dsimp only;rw[show cW (0:Int) (len [gW])=true from rfl,ae];refine ob (show idx [gW] (0:Int)=some gW from rfl) ?_;refine ob a ?_;rfl
 have d:gJ (([gW],()),f,()) (((0:Int),(0:Int),(2:Int),(1:Int),()),((),(),()),(f.1.1,f.1.2.1,(),()),f.2.1,f.1.2.2.1,()) =
  some (.inr (0,((0:Int),(0:Int),(2:Int),(1:Int),()),((),(),()),(f.1.1,f.1.2.1,(),()),f.2.1,f.1.2.2.1,())):=rfl
 unfold gS;refine ob (show Loop _ _=some _ from by rw[bm];dsimp only;rw[c];show Loop _ _=_;rw[bm,d];rfl) ?_;rfl
theorem G2{h:Option Int}{B:List Bl}{m:List pX}{f:Fs}(b:FB h B m f)(c:B.length<=900){s:aE}(a:vU s):cJ ((jZ s,()),f,())=some ((2,s,0,()),f,()):=by
 have d:=AB a;unfold cJ;refine ob (tP (jZ s)<|by omega) ?_;dsimp only;rw[vo a,show aQ (len [gW,s]) 0=false from rfl,af,show inside 0 (dC .i64 (len [gW,s]) 1) (len [gW,s])=true from rfl,ae];refine ob (Pm b c) ?_;rfl
theorem B5(m:List pX)(x:pX)(s:aE):eB (x::m) s=if x.1=s then some x else eB m s:=by
 unfold eB;rw[List.find?_cons];by_cases q:x.1=s
 .rw[oe q,bH q]
 .rw[uc q,bp q]
theorem La(a b:List pX)(s:aE):eB (a++b) s=match eB a s with|some x=>some x|none=>eB b s:=by
 induction a with
 | nil=>rfl
 | cons x r c =>
   rw[wF,B5,B5,c];by_cases q:x.1=s
   .rw[bH q,bH q]
   .rw[bp q,bp q]
theorem MQ(m:List pX)(e:pX)(k:Nat)(s:aE)(c:eB m e.1=none):eB (m.take k++[e]++m.drop k) s=if e.1=s then some e else eB m s:=by
 have b:eB (m.take k++m.drop k) s=eB m s:=by rw[vt]
 have a:eB (m.take k++m.drop k) e.1=none:=by rw[vt];exact c
 rw[mj,La,List.singleton_append,B5];rw[La] at b a;by_cases q:e.1=s
 .rw[bH q];rw[<-q];cases h:eB (m.take k) e.1 with
  | none=>rw[bH rfl]
  | some x=>rw[h] at a;cases a
 .rw[bp q,bp q];exact b
theorem MR{B:List Bl}{m:List pX}{f:Fs}(c:FB none B m f)(hB:B.length<=20){s:aE}(F:vU s)(M:∀b∈B,b.1≠s) :
  ∃P N,bu ((1,rR 3 (jZ s) [] 0 [],()),f,())=some ((jT 1,()),N,())/\FB (some<|(B.length:Int)+3) (B++[(s,[])]) P N:=by
 have R:=c.len;have S:=c.K6;have G:=c.next
 have hm:=c.MM;obtain⟨u,J,T,U⟩:=G1 f.1 (by omega) c.data;obtain⟨k,V⟩:=MG (l4 2 m) (s,(B.length:Int)+3,()) (by show m.length<=_;omega);have g:=c.Q2 s M;have C:dW (l4 2 m,s,())=some (0,()):=by
  rw[Aw (l4 2 m) s<|by show m.length<=_;omega];have:sA (l4 2 m) s=0:=by
   unfold sA;rw[show((l4 2 m).2.2.2.2.2.1.find? λe=>decide (e.1=s))=none from g]
  rw[this]
 let w:Nd:=l4 2 (m.take k++[(s,(B.length:Int)+3,())]++m.drop k)
 have I:0<w.2.2.1:=(by decide:(0:Int)<1);have j:=K2 f.1 2 s false (d:=l4 2 m) (w:=w) (u:=u) (by omega) (by omega) (K3 f.1 2 s (by omega) c.dir rfl (qL s F.1 F.2.1 F.2.2)) C J (by rw[dH (by omega)<|by omega];omega) (by rw[G];exact V);rw[G] at j
 let o:List Nd:=im w f.1.2.2.1++[qK ((B.length:Int)+3) 1 0 []]
 let O:Tb:=(f.1.1,(B.length:Int)+3+1,o,())
 have hlen:o.length=B.length+3:=by show(_++[_]).length=_;rw[l9,qN I,R];rfl
 have A:∀id,dh o id=if id=(B.length:Int)+3 then some (qK ((B.length:Int)+3) 1 0 []) else if id=2 then some w else dh f.1.2.2.1 id:=by
  intro id;show dh (_++[_]) id=_
  rw[AA,qM I];by_cases q:id=(B.length:Int)+3
  .have W:dh f.1.2.2.1 id=none:=MO c.ids (by omega);rw[bH q,bp (show id≠w.1 from by show id≠2;omega),W];show(if _=id then _ else _)=_
   rw[bH q.symm]
  .rw[bp q];by_cases K:id=2
   .subst K;rw[bH<|show(2:Int)=w.1 from rfl,c.dir,bH rfl];rfl
   .rw[bp<|show id≠w.1 from K,bp K];cases dh f.1.2.2.1 id with
    | some x=>rfl
    | none=>show(if _=id then _ else _)=_;rw[bp λe=>q e.symm]
 have p:=K5 O ((B.length:Int)+3) (d:=qK ((B.length:Int)+3) 1 0 []) (by show o.length<=_;omega) (by show dh o _=_;rw[A,bH rfl]) rfl rfl
 let n:Nd:=qK ((B.length:Int)+3) 1 1 []
 have r:0<n.2.2.1:=(by decide:(0:Int)<1);have D:∀id,dh (im n o) id=if id=(B.length:Int)+3 then some n else if id=2 then some w else dh f.1.2.2.1 id:=by
  intro id;rw[qM r,A];by_cases q:id=(B.length:Int)+3
  .rw[bH<|show id=n.1 from q,bH q,bH q];rfl
  .rw[bp<|show id≠n.1 from q,bp q,bp q]
 refine⟨m.take k++[(s,(B.length:Int)+3,())]++m.drop k,(n0 O n,[(1,1,(B.length:Int)+3,())],()),?_,?_⟩
 .have H:=c.hs;obtain⟨t,hh,u0⟩:=f;dsimp only at H;subst H;exact MJ 1 (jZ s) (t,[],()) (v:=0) (K9 F 3<|.inl rfl) (Nx t) (by decide) (G2 c (by omega) F) j p
 .have l:∀x,eB (m.take k++[(s,(B.length:Int)+3,())]++m.drop k) x=if s=x then some (s,(B.length:Int)+3,()) else eB m x:=λx=>MQ m (s,(B.length:Int)+3,()) k x g;have z:(B++[(s,([]:aE))]).length=B.length+1:=by simp
  refine⟨S,?_,rfl,?_,?_,?_,?_,?_,?_,?_,?_,?_,?_⟩
  .show(B.length:Int)+3+1=_;rw[z];omega
  .show(im n o).length=_;rw[qN r,hlen,z]
  .show dh (im n o) 1=_;rw[D,bp (by omega),bp (by decide)];exact c.root
  .show dh (im n o) 2=_;rw[D,bp (by omega),bH rfl]
  .rw[z];simp only[l9,fj,mJ,p4];omega
  .intro i b a;rw[l];by_cases L:i<B.length
   .rw[Ct L] at a;rw[bp λe=>M b (od a) e.symm];exact c.MN i b a
   .rw[Ep<|by omega] at a;have:i=B.length:=by have:=cE a;simp at this;omega
    subst this;rw[CI] at a;obtain rfl:=aq a;rw[bH rfl]
  .intro x E;rw[l,bp (E (s,[])<|by simp)];exact c.Q2 x λb a=>E b (by simp[a])
  .intro i b a;show dh (im n o) _=_
   rw[D];by_cases L:i<B.length
   .rw[Ct L] at a;rw[bp<|by omega,bp (by omega),c.file i b a,bp (by simp),bp (by simp;omega)]
   .rw[Ep<|by omega] at a;have:i=B.length:=by have:=cE a;simp at this;omega
    subst this;rw[CI] at a;obtain rfl:=aq a;rw[bH rfl,bH rfl]
  .rw[z];refine oO r (λx E=>?_) (by show(B.length:Int)+3<_;omega);rcases lW.1 E with h|h
   .exact oO (Q:=λx=>x.1<((B.length+1:Nat):Int)+3) I (λy X=>by have:=c.ids y X;omega) (by show(2:Int)<_;omega) x h
   .obtain rfl:=gD.1 h;show(B.length:Int)+3<_;omega
  .refine oO r (λx E=>?_) (by decide:0<=1000);rcases lW.1 E with h|h
   .exact oO (Q:=λx=>x.2.2.2.2.1.length<=1000) I c.data (by decide:0<=1000) x h
   .obtain rfl:=gD.1 h;exact(by decide:0<=1000)
  .intro e Y;rcases KZ Y with rfl|h
   .exact⟨B.length,(s,[]),by simp,rfl⟩
   .obtain⟨i,b,a,Z⟩:=c.each e h;exact⟨i,b,by rw[Ct<|cE a];exact a,Z⟩
theorem FB.n0{h w:Option Int}{B C:List Bl}{m:List pX}{f:Fs}(a:FB h B m f){i:Nat}{b b':Bl}(o:B[i]?=some b)(D:∀j:Nat,j≠i->(w=some ((j:Int)+3)↔h=some ((j:Int)+3)))
  (y:C=B.set i b') (z:b'.1=b.1) (G:b'.2.length<=1000) {n:Nd} (x:n=qK ((i:Int)+3) 1 (if w=some ((i:Int)+3) then 1 else 0) b'.2) {p:List Hn} (A:p=RQ w) :
  FB w C m (n0 f.1 n,p,()):=by
 subst y;have H:=cE o;have d:0<n.2.2.1:=by rw[x];show(0:Int)<1;decide
 have r:n.1=(i:Int)+3:=by rw[x]
 have u:∀(j:Nat) c,(B.set i b')[j]?=some c->(j=i/\c=b')\/(j≠i/\B[j]?=some c):=by
  intro j c g;rw[AN] at g;by_cases q:i=j
  .rw[bH q,bH (by omega)] at g;exact .inl ⟨q.symm,(aq g).symm⟩
  .rw[bp q] at g;exact .inr ⟨λe=>q e.symm,g⟩
 refine⟨a.K6,by rw[CB];exact a.next,A,?_,?_,?_,by rw[CB];exact a.MM,?_,?_,?_,?_,?_,?_⟩
 .show(im n f.1.2.2.1).length=_;rw[qN d,CB];exact a.len
 .show dh (im n f.1.2.2.1) 1=_;rw[qM d,bp (by omega)];exact a.root
 .show dh (im n f.1.2.2.1) 2=_;rw[qM d,bp (by omega)];exact a.dir
 .intro j c g;rcases u j c g with ⟨rfl,rfl⟩|⟨_,l⟩
  .rw[z];exact a.MN _ b o
  .exact a.MN j c l
 .intro s E;refine a.Q2 s λc g=>?_;obtain⟨j,l,rfl⟩:=List.mem_iff_getElem.1 g;by_cases q:j=i
  .subst q;have:B[j]=b:=by rw[nP l] at o;exact aq o
   rw[this,<-z];exact E b' (od (i:=j)<|by rw[AN];simp[l])
  .exact E B[j] (od (i:=j)<|by rw[AN,bp λe=>q e.symm];exact nP l)
 .intro j c g;show dh (im n f.1.2.2.1) _=_
  rw[qM d];rcases u j c g with ⟨rfl,rfl⟩|⟨v,l⟩
  .rw[bH r.symm,a.file _ b o];exact congrArg some x
  .rw[bp<|by omega,a.file j c l];by_cases q:h=some ((j:Int)+3)
   .rw[bH q,bH ((D j v).2 q)]
   .rw[bp q,bp λe=>q ((D j v).1 e)]
 .rw[CB];exact oO d a.ids (by omega)
 .exact oO d a.data (by rw[x];exact G)
 .intro e I;obtain⟨j,c,l,F⟩:=a.each e I;by_cases q:j=i
  .subst q;rw[o] at l;obtain rfl:=aq l;exact⟨j,b',by rw[AN];simp[H],by rw[z];exact F⟩
  .exact⟨j,c,by rw[AN,bp λe=>q e.symm];exact l,F⟩
theorem yu{a:Type}{l:List a}{i:Nat}{x:a}(h:l[i]?=some x):l=l.set i x:=by
 obtain⟨b,rfl⟩:=sE.1 h;exact(List.set_getElem_self b).symm
theorem AD{i j:Nat}(h:j≠i):(some ((i:Int)+3)=some ((j:Int)+3))↔False:=⟨λe=>h (by have:=aq e;omega),λe=>e.elim⟩
theorem Iu(t:Tb)(id:Int)(d:Nd)(a:bP ((id,0,0,()),t,())=some ((d,0,()),t,())):cp ((id,0,[],()),t,())=some ((0,()),t,()):=by
 unfold cp;refine ob a ?_;dsimp only;rw[show nt (aQ (0:Int) 0)=false from rfl,af,show nt (cW (1048576:Int) 0)=true from rfl,ae,show aK .i64 0 (len ([]:aE))=0 from rfl,show cW (1048576:Int) 0=false from rfl,af,iV rfl,ae]
theorem Of{B:List Bl}{m:List pX}{f:Fs}{i:Nat}{s d:aE}(a:FB (some<|(i:Int)+3) B m f)(x:B.length<=20)(l:B[i]?=some (s,[]))(y:d.length<=100) :
  ∃p,bu ((1,rR 7 [] [] 1 d,()),f,())=some ((jT 0,()),p,())/\FB (some<|(i:Int)+3) (B.set i (s,d)) m p:=by
 have z:=a.len;have A:=a.K6;obtain⟨u,n,v,w⟩:=G1 f.1 (by omega) a.data;have q:=a.file i _ l;rw[bH rfl] at q;have b:=a.hs;have c:bP (((i:Int)+3,0,0,()),f.1,())=some ((qK ((i:Int)+3) 1 1 [],0,()),f.1,()):=K4 f.1 _ 0 0 (by omega) q rfl (by decide) (by decide);have g:∀o,cp (((i:Int)+3,0,d,()),f.1,())=some ((0,()),o,())->bu ((1,rR 7 [] [] 1 d,()),f,())=some ((jT 0,()),(o,[(1,1,(i:Int)+3,())],()),()):=by
  intro o h;obtain⟨t,C,D⟩:=f;dsimp only at b h;subst b;exact MK 1 1 d (t,[(1,1,(i:Int)+3,())],()) (id:=(i:Int)+3) (FV t _) (by omega) h
 by_cases r:d=[]
 .subst r;refine⟨_,g f.1 (Iu f.1 _ _ c),?_⟩;rw[<-yu l,show [((1:Int),(1:Int),(i:Int)+3,())]=f.2.1 from b.symm];exact a
 .exact⟨_,g _ (It f.1 ((i:Int)+3) u (qK ((i:Int)+3) 1 1 []) d (by omega) c rfl (by omega) n (by omega) (by omega) λe=>absurd e r),
  a.n0 (b':=(s,d)) l (λj E=>Iff.rfl) rfl rfl (by show d.length<=1000;omega) (by rw[bH rfl]) rfl⟩
theorem G3(k h n:Int)(d:aE)(a:k=5\/k=6):fV ((k,[],[],h,0,n,d,0,0,()),())=some (true,()):=by
 rcases a with rfl|rfl<;>rfl
theorem Lb{B:List Bl}{m:List pX}{f:Fs}{i:Nat}{b:Bl}(c:FB (some<|(i:Int)+3) B m f)(q:B.length<=20)(d:B[i]?=some b)(l:b.2.length<=1000) :
  ∃g,bu ((1,rR 5 [] [] 1 [],()),f,())=some ((jT 0,()),g,())/\FB none B m g:=by
 have n:=c.len;have e:=c.file i _ d;rw[bH rfl] at e;have a:=c.hs;obtain⟨t,h,r⟩:=f;dsimp only at a e n;subst a;have o:=ML t ((i:Int)+3) (by omega) e rfl;refine⟨(n0 t<|qK ((i:Int)+3) 1 0 b.2,[],()),?_,c.n0 d (λj p=>by rw[AD p];simp) (yu d) rfl l (by rw[bp<|by simp]) rfl⟩;have h:cC ((1,rR 5 [] [] 1 [],()),(t,[(1,1,(i:Int)+3,())],()),())=some ((jT 0,()),(n0 t<|qK ((i:Int)+3) 1 0 b.2,[],()),()):=by
  unfold cC;refine ob (FV t<|(i:Int)+3) ?_;dsimp only;rw[cc<|by omega,af,show aQ (5:Int) 5=true from rfl,ae];exact ob o rfl
 unfold bu;refine ob (G3 5 1 0 []<|.inl rfl) ?_;dsimp only;simp only[show aQ (5:Int) 5=true from rfl,cg,ae,af];exact ob h rfl
theorem Pn{B:List Bl}{m:List pX}{f:Fs}{i:Nat}{b:Bl}(c:FB none B m f)(u:B.length<=20)(g:B[i]?=some b)(d:vU b.1)(p:b.2.length<=1000) :
  ∃o,bu ((1,rR 4 (jZ b.1) [] 0 [],()),f,())=some ((jT 1,()),o,())/\FB (some<|(i:Int)+3) B m o:=by
 have q:=c.len;have v:=c.MM;have h:=c.file i _ g;rw[bp<|by simp] at h;have a:=Nw f.1 2 b.1 (by omega) c.dir rfl (qL b.1 d.1 d.2.1 d.2.2) (by show m.length<=1000;omega) (c.MN i b g) (by show(i:Int)+3≠0;omega);have l:=G2 c (by omega) d;have e:=c.hs;obtain⟨t,w,x⟩:=f;dsimp only at e h q a;subst e;have n:=K5 t ((i:Int)+3) (by omega) h rfl rfl;refine⟨(n0 t<|qK ((i:Int)+3) 1 1 b.2,[(1,1,(i:Int)+3,())],()),?_,c.n0 g (λj r=>by rw[AD r];simp) (yu g) rfl p (by rw[bH rfl]) rfl⟩;unfold bu;refine ob (K9 d 4<|.inr rfl) ?_;dsimp only;simp only[show aQ (4:Int) 5=false from rfl,show aQ (4:Int) 6=false from rfl,show aQ (4:Int) 7=false from rfl,show aQ (4:Int) 8=false from rfl,show aQ (4:Int) 9=false from rfl,show aQ (4:Int) 13=false from rfl,show aQ (4:Int) 3=false from rfl,show aQ (4:Int) 4=true from rfl,show aQ (4:Int) 1=false from rfl,show aQ (4:Int) 2=false from rfl,show aQ (4:Int) 11=false from rfl,cg,cM,ae,af];refine ob (Nx t) ?_;rw[show oW (8:Int) 0=false from rfl,af];refine ob l ?_;rw[show nt (aQ (0:Int) 0)=false from rfl,af];refine ob a ?_;rw[show nt (aQ (0:Int) 0)=false from rfl,af];exact ob n rfl
theorem Po{B:List Bl}{m:List pX}{f:Fs}{i:Nat}{b:Bl}(d:FB (some<|(i:Int)+3) B m f)(p:B.length<=20)(n:B[i]?=some b)(q:b.2.length<=1000) :
  bu ((1,((6:Int),([]:aE),([]:aE),(1:Int),(0:Int),(1048576:Int),([]:aE),(0:Int),(0:Int),()),()),f,())=some ((((0:Int),(0:Int),b.2,([]:List aE),()),()),f,()):=by
 have r:=d.len;have g:=d.file i _ n;rw[bH rfl] at g;have a:=d.hs;have e:bP (((i:Int)+3,0,1048576,()),f.1,())=some ((qK ((i:Int)+3) 1 1 b.2,0,()),f.1,()):=K4 f.1 _ 0 1048576 (by omega) g rfl (by decide) (by decide);have h:eV (((i:Int)+3,0,1048576,()),f.1,())=some ((b.2,0,()),f.1,()):=by
  unfold eV;refine ob e ?_;dsimp only;rw[show nt (nt<|aQ (0:Int) 0)=true from rfl,ae];by_cases j:b.2=[]
  .rw[j,show oW (len ([]:aE)) 0=true from rfl,ae]
  .have u:0<b.2.length:=List.length_pos_iff.2 j;have c:Eu 1048576 (dC .i64 (len b.2) 0)=b.2.length:=by
    rw[cX,eZ (by omega) (by omega),Int.sub_zero];unfold Eu;cases o:decide ((b.2.length:Int)<1048576) with
    | true=>rfl
    | false=>have:=of_decide_eq_false o;omega
   rw[show oW (len b.2) 0=false from mI (by rw[cX];omega),af,c,dH (by omega) (by omega),Int.zero_add,cj (by omega) (by omega) (by rw[cX];omega),ae];have:sub b.2 0 (minus (b.2.length:Int) 0)=b.2:=by simp[sub,minus]
   rw[this]
 have l:cC ((1,((6:Int),([]:aE),([]:aE),(1:Int),(0:Int),(1048576:Int),([]:aE),(0:Int),(0:Int),()),()),f,())=some ((((0:Int),(0:Int),b.2,([]:List aE),()),()),f,()):=by
  obtain⟨t,l,v⟩:=f;dsimp only at a h;subst a;unfold cC;refine ob (FV t<|(i:Int)+3) ?_;dsimp only;rw[cc<|by omega,af,show aQ (6:Int) 5=false from rfl,af,show aQ (6:Int) 6=true from rfl,ae];exact ob h rfl
 unfold bu;refine ob (G3 6 1 1048576 []<|.inr rfl) ?_;dsimp only;simp only[show aQ (6:Int) 5=false from rfl,show aQ (6:Int) 6=true from rfl,cg,ae,af];exact ob l rfl
theorem FW(f:Fs)(c:f.1.2.2.1.length<=1000){id:Int}{d:aE}{l h:Int}(b:dh f.1.2.2.1 id=some (qK id l h d))(k:Nat)(p:aE)(n:Int) :
  cb (k+1) ((id,p,n,()),f,())=some (([],()),f,()):=by
 have a:=yq f id (by omega);rw[b] at a;show dL _ _=_
 unfold dL;refine ob a ?_;refine ob (show Loop _ _=some _ from by rw[bm];rfl) ?_;rfl
theorem AE(f:Fs)(H:f.1.2.2.1.length<=1000){id:Int}{m:List pX}(C:dh f.1.2.2.1 id=some (l4 id m))(I:m.length<=1000)(k:Nat)(p:aE)(J:p.length<=1000)(n:Int)(K:0<=n/\n<40)(d:List (List Fl))
  (D:d.length=m.length) (o:∀x∈d,x.length<=1000) (q:∀(i:Nat) e,m[i]?=some e->e.1.length<=32/\∃x,d[i]?=some x/\((dh f.1.2.2.1 e.2.1).getD zN).1=e.2.1 /\
   cb k ((e.2.1,Av p e.1,n+1,()),f,())=some ((x,()),f,())) :
  ∃b,cb (k+1) ((id,p,n,()),f,())=some ((b,()),f,())/\b.length=m.length+(d.map List.length).sum:=by
 have c:=yq f id (by omega);rw[C] at c
 let F:=dy (cb k) ((id,p,n,()),f,()) ((l4 id m,()),f,())
 have key:∀i:Nat,i<=m.length->∃b:List Fl,b.length=i+((d.take i).map List.length).sum/\∀r,Loop F (LQ f i b)=some r->Loop F (LQ f 0 [])=some r:=by
  intro i;induction i with
  | zero=>exact λ_=>⟨[],rfl,λr h=>h⟩
  | succ i y =>
    intro L;obtain⟨b,v,w⟩:=y (by omega);have hx:m[i]?=some m[i]:=nP (by omega);obtain⟨M,x,j,z,A⟩:=q i m[i] hx;have B:((d.take i).map List.length).sum<=1000*i:=by
     clear w v;have:∀l:List (List Fl),(∀x∈l,x.length<=1000)->(l.map List.length).sum<=1000*l.length:=by
      intro l;induction l with
      | nil=>exact λ_=>cU _
      | cons a r y=>intro h;have:=y λx hx=>h x (by simp[hx]);have:=h a (by simp);simp only[fY,Jy,gA];omega
     have N:=this (d.take i) λx hx=>o x (I7 hx);have:(d.take i).length<=i:=by rw[fj];omega
     omega
    have E:=o x (od j);refine⟨b++[(Av p m[i].1,((dh f.1.2.2.1 m[i].2.1).getD zN).2.1,((dh f.1.2.2.1 m[i].2.1).getD zN).2.2.2.2.1,())]++x,?_,λr G=>w r ?_⟩
    .rw[Hc<|by omega,oY,Ju];have:d[i]'(by omega)=x:=by rw[nP<|by omega] at j;exact aq j
     simp only[l9,p4,v,fY,CH,Jy,List.sum_nil,this];omega
    .have g:F (LQ f i b)=some (.inl<|LQ f (i+1)<|b++[(Av p m[i].1,((dh f.1.2.2.1 m[i].2.1).getD zN).2.1,((dh f.1.2.2.1 m[i].2.1).getD zN).2.2.2.2.1,())]++x):=by
      show dy _ _ _ _=_
      unfold dy;dsimp only[LQ];refine(congrArg fh (?_:_=some (.inl<|LQ f (i+1)<|b++[(Av p m[i].1,((dh f.1.2.2.1 m[i].2.1).getD zN).2.1,((dh f.1.2.2.1 m[i].2.1).getD zN).2.2.2.2.1,())]++x))).trans (bS _);rw[dt<|by omega,ae,bR (by omega),ae];refine ob (bb hx) ?_;refine ob (yq f m[i].2.1<|by omega) ?_;refine ob (bb hx) ?_;refine ob (B3 p m[i].1 (by omega)<|by omega) ?_;dsimp only;rw[b9<|by simp only[p4];omega,ae,dH (by omega) (by omega),z];refine ob A ?_;dsimp only;rw[b9<|by rw[la];simp only[l9,p4];omega,ae,bB (by omega)];rfl
     rw[bm,g];exact G
 obtain⟨b,v,w⟩:=key m.length (cU _);have u:F (LQ f m.length b)=some (.inr<|LQ f m.length b):=by
  show dy _ _ _ _=_
  unfold dy;dsimp only[LQ];rw[cP,af,af];rfl
 refine⟨b,?_,by rw[v,sG (by omega)]⟩;show dL _ _=_
 unfold dL;refine ob c ?_;refine ob (w (LQ f m.length b)<|by rw[bm,u];rfl) ?_;rfl
theorem Og{B:List Bl}{m:List pX}{f:Fs}(c:FB none B m f)(w:B.length<=20)(q:∀b∈B,b.1.length<=32):∃d:List Fl,je ((),f,())=some ((d,()),f,())/\d.length=B.length+1:=by
 have y:=c.len;have z:=c.MM;obtain⟨n,r,g⟩:=AE f (by omega) c.dir (by omega) 62 gW (by decide) 1 (by omega) (List.replicate m.length []) (by simp) (by intro x h;rw[(List.mem_replicate.1 h).2];decide) (λi e a=>by
  obtain⟨j,b,o,rfl⟩:=c.each e (od a);have p:=c.file j b o;refine⟨q b<|od o,[],by rw[Gf,bH (cE a)],by rw[p];rfl,FW f (by omega) p 61 _ _⟩)
 obtain⟨u,v,l⟩:=AE f (by omega) c.root (by decide) 63 [] (by decide) 0 (by omega) [n] rfl (by intro x h;obtain rfl:=gD.1 h;rw[g];simp;omega) (λi e a=>by
  match i,a with
  | 0,a =>
    obtain rfl:=aq a;exact⟨by decide,n,rfl,by show((dh f.1.2.2.1 2).getD zN).1=2;rw[c.dir];rfl,r⟩
  | i+1,a=>cases a)
 refine⟨u,?_,?_⟩
 .unfold je jd;exact ob v rfl
 .rw[l];simp only[fY,CH,Jy,List.sum_nil,g,p4];simp;omega
abbrev PT:Pt:=([(1,1,())],1,())
abbrev T4:Pt:=([],1,())
abbrev wd(f b:Fs)(a:List Od):Wd:=((f,b,a,()),PT,())
abbrev MN(a:oa):Od:=(1,false,a,())
theorem Lc:ew ((1,()),PT,())=some ((1,0,()),PT,()):=by
 obtain rfl:‹Lp›=Lp.y3:=Lp.one _ _;kernel_rfl
theorem G4(f d b:Fs)(c:List Od)(a:oa)(r:Rs)(h:bu ((1,a,()),f,())=some ((r,()),d,()))(j:r.1=0)(e:aQ a.1 14=false)(g:aQ a.1 15=false)(l:aQ a.1 6=false)(m:aQ a.1 9=false)(i:aQ a.1 13=false)
  (o:c.length<=1000):aG ((1,a,()),wd f b c,())=some ((r,()),wd d b<|c++[MN a],()):=by
 have n:ft ((1,a,()),(f,b,c,()),())=some ((r,()),(d,b,c++[MN a],()),()):=by
  unfold ft;dsimp only;rw[e,af];refine ob h ?_;dsimp only;rw[l,m,i,fL j,show av true (nt<|av (nt<|av (nt false) false true) false true) false=true from rfl,ae,b9 (by simp only[p4];omega),ae];rfl
 unfold aG;refine ob Lc ?_;dsimp only;rw[show nt (aQ (0:Int) 0)=false from rfl,af,g,af];exact ob n rfl
def kB(o:aE):Fs:=((1048576,4,[l4 1 [(fF,3,()),(Oe,2,())],l4 2 [],qK 3 1 0 o],()),[],())
def kC(o x:aE):Fs:=((1048576,5,[l4 1 [(fF,3,()),(Oe,2,())],l4 2 [(fX,4,())],qK 3 1 0 o,qK 4 1 0 x],()),[],())
def kE(x:aE):Fs:=((1048576,5,[l4 1 [(fF,4,()),(Oe,2,())],l4 2 [],qK 4 1 0 x],()),[],())
abbrev gone:Od:=(1,true,rR 0 [] [] 0 [],())
def kF(o x:aE):Nat->Fs
 | 0=>kB o
 | 1=>kC o []
 | 2=>kC o x
 | 3=>kC o x
 | 4=>kC o x
 | _=>kE x
abbrev T5:=(Int×ah)×(ah×ah×ah)×(Int×Int×ah×ah)×List Hn×List Nd×ah
abbrev TE:Rs:=((14:Int),(0:Int),([]:aE),([]:List aE),())
def tX(L:List Dn)(a:Int)(b c:Bool)(d:oa):Rn:=(true,L,a,b,c,d,())
theorem yv(e:Int):cK (([]:List Int),e,())=some (false,()):=by
 obtain rfl:‹Lp›=Lp.y3:=Lp.one _ _;kernel_rfl
theorem rl(L:List Dn)(i:Nat)(o a:oa)(r:Rs)(h:L[i]?=some (o,r,()))(b:r.1=0)(c:qJ r)(d:L.length<=1000) :
  iS ((o,[],()),tX L i false false a,())=some ((r,0,()),tX L (i+1:Nat) false false a,()):=by
 unfold iS;refine ob (K1 L i o a r h c d) ?_;refine ob (yv r.1) ?_;rw[af];dsimp only;rw[b];rfl
theorem wA(L:List Dn)(o a:oa):iS ((o,[],()),tX L L.length false false a,())=some ((TE,14,()),tX L L.length true true o,()):=by
 unfold iS;refine ob (K0 L o a) ?_;refine ob (yv 14) ?_;rw[af];rfl
theorem Iv(L:List Dn)(i:Nat)(o a:oa)(r:Rs)(h:L[i]?=some (o,r,()))(b:r.1=0)(c:qJ r)(d:L.length<=1000) :
  jg ((o,()),tX L i false false a,())=some ((false,()),tX L (i+1:Nat) false false a,()):=by
 unfold jg;exact ob (rl L i o a r h b c d) rfl
theorem Iw(L:List Dn)(o a:oa):jg ((o,()),tX L L.length false false a,())=some ((true,()),tX L L.length true true o,()):=by
 unfold jg;exact ob (wA L o a) rfl
abbrev Tx:=aE
abbrev Ix:=Tx×Tx×List Tx×Tx×Int×Int×Bool×ah
abbrev Q3:=Tx×(ah×(ah×Int×ah)×(ah×(Int×Int×ah)×ah)×ah)×Tx×(ah×ah×Int×ah)×ah
def Lz(s:Tx)(d:Int)(t:Tx)(m:Int):Q3:=(s,((),((),d,()),((),((0:Int),(0:Int),()),()),()),t,((),(),m,()),())
theorem B6(s:Tx)(a:s.length<=1048576):b7 ((),Lz s 0 [] 0,())=some ((gB s,()),Lz s 1 (gB s) 1,()):=by
 unfold b7 Lz;dsimp only;rw[Kx,ae,ae,ae,KQ s a,ag]
theorem B7(s t:Tx)(m:Int):b7 ((),Lz s 1 t m,())=some ((t,()),Lz s 1 t m,()):=by
 unfold b7 Lz;dsimp only;rw[cc<|by decide,af]
def Oh(s:Tx)(i:Nat):Q3:=Lz s (if i=0 then 0 else 1) (if i=0 then [] else gB s) (if i=0 then 0 else 1)
theorem lR(s:Tx)(a:s.length<=1048576)(i:Nat):b7 ((),Oh s i,())=some ((gB s,()),Oh s<|i+1,()):=by
 cases i with
 | zero=>exact B6 s a
 | succ i=>exact B7 s (gB s) 1
def Ef(k:Nat):Tx:=if k<10 then [UInt8.ofNat<|48+k] else [UInt8.ofNat<|48+k / 10,UInt8.ofNat (48+k % 10)]
theorem Iy{k:Nat}(h:k<100):Lib.itoa (k:Int)=Ef k:=by
 rw[Lib.itoa_nonneg];unfold Ef;by_cases q:k<10
 .rw[bH q,Lib.decDigits,dif_pos q]
 .rw[bp q,Lib.decDigits,dif_neg q,Lib.decDigits,dif_pos (by omega)];rfl
theorem Ld:∀a b:Fin 40,Ef a.val=Ef b.val->a=b:=by decide
theorem G5:∀a:Fin 40,(∀b∈Ef a.val,b≠0/\b≠47)/\1<=(Ef a.val).length/\(Ef a.val).length<=2:=by decide
def yw(t:Tx):Tx:=((gB t).drop 7).take 24
theorem AF(t:Tx):(yw t).length=24:=by
 unfold yw;rw[fj,mJ,qI];rfl
theorem G6:∀l:Tx,∀b∈lb l,b≠0/\b≠47
 | [],b,h=>by cases h
 | a::r,b,h=>by
   have c:∀n:Fin 16,hx n.val≠0/\hx n.val≠47:=by decide
   have e:lb (a::r)=hx (a.toNat / 16)::hx (a.toNat % 16)::lb r:=rfl;rw[e] at h;rcases eR.1 h with rfl|h
   .have:=a.toNat_lt;exact c ⟨a.toNat / 16,by omega⟩
   .rcases eR.1 h with rfl|h
    .exact c ⟨a.toNat % 16,by omega⟩
    .exact G6 r b h
theorem Lf(t:Tx):∀b∈yw t,b≠0/\b≠47:=by
 intro b a;unfold yw at a;rw[Au] at a;exact G6 _ b (I7 a)
def jN(t:Tx)(k:Nat):Tx:=yw t++[46]++Ef k
theorem Lg(t:Tx){k:Nat}(h:k<40):vU (jN t k):=by
 have c:=G5 ⟨k,h⟩;have d:=AF t;unfold vU jN;simp only[l9,p4];refine⟨λb a=>?_,by omega,by have:=c.2;dsimp only at this;omega⟩;rcases lW.1 a with a|a
 .rcases lW.1 a with a|a
  .exact Lf t b a
  .obtain rfl:=gD.1 a;exact⟨by decide,by decide⟩
 .exact c.1 b a
theorem MS(t:Tx){a b:Nat}(c:a<40)(d:b<40)(h:jN t a=jN t b):a=b:=by
 unfold jN at h;have:=List.append_cancel_left h;exact congrArg Fin.val (Ld ⟨a,c⟩ ⟨b,d⟩ this)
theorem Lh(t:Tx)(k:Nat):jN t k≠[]:=by unfold jN;simp
theorem MT(t:Tx){k:Nat}(h:k<40):(jN t k).length<=32:=(Lg t h).2.2
theorem j0(t:Tx){k:Nat}(h:k<40):fK (gB t,(k:Int),())=some (jN t k,()):=by
 have b:=G5 ⟨k,h⟩;have a:=AF t;have c:=qI t;unfold fK;refine ob (Ik (gB t)<|by omega) ?_;dsimp only;rw[FQ t,show nt (aQ (0:Int) 0)=false from rfl,af,cj (by decide) (by decide) (by rw[cX];omega),ae,show sub (gB t) 7 (minus 31 7)=yw t from rfl,b9 (by rw[a];simp),ae];refine ob (show pz ((k:Int),())=some (Lib.itoa (k:Int),()) from rfl) ?_;dsimp only;rw[Iy<|by omega,b9 (by rw[la,l9,a];simp only[p4];have:=b.2;dsimp only at this;omega),ae];rfl
theorem oP(t:Tx){k:Nat}(h:k<40):iT (gB t,(k:Int),())=some (jZ<|jN t k,()):=by
 have a:=MT t h;unfold iT;refine ob (j0 t h) ?_;dsimp only;rw[eP<|Lh t k,cM,ae,b9 (by simp only[gA,ni];omega),ae,ag];rfl
abbrev qO(s:Tx):oa:=rR 4 (jZ s) [] 0 []
abbrev sC:oa:=((6:Int),([]:aE),([]:aE),(1:Int),(0:Int),(1048576:Int),([]:aE),(0:Int),(0:Int),())
abbrev my:oa:=rR 5 [] [] 1 []
abbrev FX(d:Tx):Rs:=((0:Int),(0:Int),d,([]:List aE),())
def qP(b:Bl):List Dn:=[(qO b.1,jT 1,()),(sC,FX b.2,()),(my,jT 0,())]
theorem rm(n:Int):qJ (jT n):=⟨RO,jO _⟩
theorem B8(d:Tx):qJ (FX d):=⟨RO,jO _⟩
theorem Iz(L:List Dn)(a:Nat)(b:Bl)(c:oa)(d:L.length<=1000)(h:∀j,j<3->L[a+j]?=(qP b)[j]?) :
  eL ((jZ b.1,()),tX L a false false c,())=some ((b.2,0,()),tX L (a+3:Nat) false false c,()):=by
 unfold eL;refine ob (rl L a (qO b.1) c (jT 1) (h 0<|by decide) rfl (rm 1) d) ?_;dsimp only;rw[show nt (aQ (0:Int) 0)=false from rfl,af];refine ob (rl L (a+1) sC c (FX b.2) (h 1<|by decide) rfl (B8 b.2) d) ?_;dsimp only;rw[show nt (aQ (0:Int) 14)=true from rfl,ae];refine ob (Iv L (a+2) my c (jT 0) (h 2<|by decide) rfl (rm 0) d) ?_;rw[af,show nt (aQ (0:Int) 0)=false from rfl,af]
theorem IA(L:List Dn)(a j:Nat)(b:Bl)(c:oa)(e:L.length<=1000)(f:j<3)(d:L.length=a+j)(h:∀i,i<j->L[a+i]?=(qP b)[i]?) :
  ∃o r,(qP b)[j]?=some (o,r,())/\eL ((jZ b.1,()),tX L a false false c,())=some (([],14,()),tX L (a+j:Nat) true true o,()):=by
 match j,f,d,h with
 | 0,_,d,h =>
   refine⟨qO b.1,jT 1,rfl,?_⟩;have:=wA L (qO b.1) c;rw[d] at this;unfold eL;exact ob this rfl
 | 1,_,d,h =>
   refine⟨sC,FX b.2,rfl,?_⟩;have:=wA L sC c;rw[d] at this;unfold eL;refine ob (rl L a (qO b.1) c (jT 1) (h 0<|by decide) rfl (rm 1) e) ?_;dsimp only;rw[show nt (aQ (0:Int) 0)=false from rfl,af];exact ob this rfl
 | 2,_,d,h =>
   refine⟨my,jT 0,rfl,?_⟩;have:=Iw L my c;rw[d] at this;unfold eL;refine ob (rl L a (qO b.1) c (jT 1) (h 0<|by decide) rfl (rm 1) e) ?_;dsimp only;rw[show nt (aQ (0:Int) 0)=false from rfl,af];refine ob (rl L (a+1) sC c (FX b.2) (h 1<|by decide) rfl (B8 b.2) e) ?_;dsimp only;rw[show nt (aQ (0:Int) 14)=true from rfl,ae];exact ob this rfl
 | j+3,h,_,_=>exact absurd h (by omega)
def Ly(t:Tx)(k:Nat):Ix:=([],[],[],gB t,(t.length:Int),(k:Int),true,())
theorem yx(L:List Dn)(a:Nat)(t:Tx)(k:Nat)(b:oa)(c:k<40)(f:t.length<=1000)(d:L.length<=1000)(h:∀j,j<3->L[a+j]?=(qP (jN t k,t))[j]?) :
  dM ((Ly t k,()),tX L a false false b,())=some ((t,0,()),tX L (a+3:Nat) false false b,()):=by
 unfold dM;refine ob (oP t c) ?_;refine ob (Iz L a (jN t k,t) b d h) ?_;have e:lK ((Ly t k).2.2.2.1,t,())=some (true,()):=by
  have:=Oc (gB t) t (by omega);rw[oe rfl] at this;exact this
 dsimp only;rw[show nt (aQ (0:Int) 3)=true from rfl,ae,show aQ (0:Int) 0=true from rfl,ae,show aQ (@len UInt8 t) (Ly t k).2.2.2.2.1=true from fL rfl,cg,cM,ae,e];rfl
theorem yy(L:List Dn)(a j:Nat)(t:Tx)(k:Nat)(b:oa)(c:k<40)(d:L.length<=1000)(e:j<3)(f:L.length=a+j)(h:∀i,i<j->L[a+i]?=(qP (jN t k,t))[i]?) :
  ∃o r,(qP (jN t k,t))[j]?=some (o,r,())/\dM ((Ly t k,()),tX L a false false b,())=some (([],14,()),tX L (a+j:Nat) true true o,()):=by
 obtain⟨o,r,g,l⟩:=IA L a j (jN t k,t) b d e f h;refine⟨o,r,g,?_⟩;unfold dM;refine ob (oP t c) ?_;refine ob l ?_;rfl
abbrev TK:=Tx×Nat
def eG(p:TK):Tx:=jN p.1 p.2
theorem Eg{b:Type}[DecidableEq b]:∀(l m:List b),l.Nodup->(∀x∈l,x∈m)->l.length<=m.length
 | [],_,_,_=>jO _
 | a::r,m,h,c=>by
   have d:a∈m:=c a (by simp);have f:=wH.1 h;have:=Eg r (m.erase a) f.2 λx g=>(List.mem_erase_of_ne λe=>f.1 (by rw[<-e];exact g)).2 (c x<|by simp[g]);have i:=List.length_erase_of_mem d;have j:0<m.length:=List.length_pos_of_mem d;simp only[gA];omega
structure nw (Ts:List TK):Prop where
 len:Ts.length<=12
 small:∀p∈Ts,p.1.length<=100/\p.2<=12
 apart:∀p∈Ts,∀q∈Ts,eG p=eG q->p.1=q.1
 one:∀p∈Ts,∀q∈Ts,p.1=q.1->p.2=q.2
 below:∀p∈Ts,∀k,k<p.2->∃q∈Ts,q.1≠p.1/\eG q=jN p.1 k
def IB(a:List TK)(t:Tx)(k:Nat):Prop:=∃p∈a,eG p=jN t k
inductive Tr (Ts:List TK) (t:Tx):Nat->List Bl->Nat×Bool->Prop
 | none {k:Nat}:k<=12->¬IB Ts t k->Tr Ts t k [] (k,false)
 | skip {k:Nat} {R:List Bl} {r:Nat×Bool}:k<=12->IB Ts t k->(∀p∈Ts,eG p=jN t k->gB p.1≠gB t\/p.1.length≠t.length)->Tr Ts t (k+1) R r->Tr Ts t k R r
 | hit {k:Nat}:k<=12->IB Ts t k->(∀p∈Ts,eG p=jN t k->p.1=t)->Tr Ts t k [(jN t k,t)] (k,true)
 | MU {k:Nat} {q:Tx} {R:List Bl} {r:Nat×Bool}:k<=12->IB Ts t k->(∀p∈Ts,eG p=jN t k->p.1=q)->q≠t->gB q=gB t->q.length=t.length->Tr Ts t (k+1) R r->Tr Ts t k ((jN t k,q)::R) r
theorem Li{d:List TK}(h:nw d)(t:Tx):∃k,k<=12/\¬IB d t k:=by
 apply M6;intro i;have c:∀k,k<=12->IB d t k:=λk f=>M6 λe=>i ⟨k,f,e⟩;have:=Eg ((List.range 13).map<|jN t) (d.map eG) (by
  refine List.pairwise_map.2 ?_;refine List.Pairwise.imp_of_mem (R:=λa b=>a≠b) ?_ List.nodup_range;intro a b j l g e;rw[CF] at j l;exact g (MS t (by omega) (by omega) e)) (by
  intro x m;obtain⟨k,f,rfl⟩:=lY.1 m;obtain⟨p,n,e⟩:=c k (by rw[CF] at f;omega);exact lY.2 ⟨p,n,e⟩)
 have o:=h.len;simp only[p5,Jr] at this;omega
theorem Pp{c:List TK}(h:nw c)(t:Tx){K:Nat}(x:K<=12)(j:¬IB c t K):∀d k,k+d=K->∃R r,Tr c t k R r/\R.length<=d/\∀b∈R,∃p∈c,b=(eG p,p.1)/\p.2<=12:=by
 intro d;induction d with
 | zero =>
   intro k y;obtain rfl:k=K:=by omega
   exact⟨[],_,.none x j,cU _,by simp⟩
 | succ d z =>
   intro k y;by_cases o:IB c t k
   rotate_left
   .exact⟨[],_,.none (by omega) o,by simp,by simp⟩
   obtain⟨R,r,u,B,v⟩:=z (k+1) (by omega);obtain⟨p,a,e⟩:=o;have l:∀q∈c,eG q=jN t k->q.1=p.1:=λq f g=>h.apart q f p a (g.trans e.symm);by_cases m:gB p.1=gB t/\p.1.length=t.length
   .by_cases n:p.1=t
    .exact⟨[(jN t k,t)],_,.hit (by omega) ⟨p,a,e⟩ (λq f g=>(l q f g).trans n),by simp,by
     intro b i;obtain rfl:=gD.1 i;exact⟨p,a,by rw[e,n],(h.small p a).2⟩⟩
    .refine⟨(jN t k,p.1)::R,r,.MU (by omega) ⟨p,a,e⟩ l n m.1 m.2 u,by simp;omega,?_⟩;intro b i;rcases eR.1 i with rfl|i
     .exact⟨p,a,by rw[e],(h.small p a).2⟩
     .exact v b i
   .refine⟨R,r,.skip (by omega) ⟨p,a,e⟩ (λq f g=>?_) u,by omega,v⟩;rw[l q f g];by_cases w:gB p.1=gB t
    .exact .inr λA=>m ⟨w,A⟩
    .exact .inl w
theorem Eh{f:List TK}(h:nw f){p:TK}(b:p∈f){k:Nat}{R:List Bl}{r:Nat×Bool}(n:Tr f p.1 k R r):k<=p.2->r=(p.2,true):=by
 have c:∀k,k<p.2->∀q∈f,eG q=jN p.1 k->q.1≠p.1:=λk d q o e=>by
  obtain⟨x,a,u,g⟩:=h.below p b k d;have:=h.apart q o x a (e.trans g.symm);rw[this];exact u
 induction n with
 | @none k _ m =>
   intro d;by_cases q:k=p.2
   .subst q;exact absurd ⟨p,b,rfl⟩ m
   .obtain⟨x,a,_,g⟩:=h.below p b k (by omega);exact absurd ⟨x,a,g⟩ m
 | @skip k _ _ _ i hs _ j =>
   intro d;by_cases q:k=p.2
   .subst q;rcases hs p b rfl with e|e
    .exact absurd rfl e
    .exact absurd rfl e
   .exact j (by omega)
 | @hit k _ i hs =>
   intro d;by_cases q:k=p.2
   .rw[q]
   .obtain⟨x,a,e⟩:=i;exact absurd (hs x a e) (c k (by omega) x a e)
 | @MU k _ _ _ _ i hs l _ _ _ j =>
   intro d;by_cases q:k=p.2
   .subst q;exact absurd (hs p b rfl).symm l
   .exact j (by omega)
theorem Lj{b:List TK}(h:nw b){t:Tx}(l:∀p∈b,p.1≠t){k:Nat}{R:List Bl}{r:Nat×Bool}(m:Tr b t k R r):r.2=false/\r.1<=12/\¬IB b t r.1/\∀i,k<=i->i<r.1->IB b t i:=by
 induction m with
 | none f g=>exact⟨rfl,f,g,λi f c=>by dsimp only at c;omega⟩
 | @skip k _ _ _ d _ _ a =>
   refine⟨a.1,a.2.1,a.2.2.1,λi f c=>?_⟩;by_cases q:i=k
   .rw[q];exact d
   .exact a.2.2.2 i (by omega) c
 | hit _ d hs=>obtain⟨x,j,e⟩:=d;exact absurd (hs x j e) (l x j)
 | @MU k _ _ _ _ d _ _ _ _ _ a =>
   refine⟨a.1,a.2.1,a.2.2.1,λi f c=>?_⟩;by_cases q:i=k
   .rw[q];exact d
   .exact a.2.2.2 i (by omega) c
theorem nw.more{d:List TK}(h:nw d)(C:d.length<12){t:Tx}(A:t.length<=100){R:List Bl}{r:Nat×Bool}(j:Tr d t 0 R r):nw (d++[(t,r.1)])/\(r.2=true↔∃p∈d,p.1=t):=by
 by_cases l:∃p∈d,p.1=t
 .obtain⟨p,f,rfl⟩:=l;have B:=Eh h f j (jO _);subst B;have c:∀x∈d++[(p.1,p.2)],x∈d:=λx a=>by
   rcases lW.1 a with a|a
   .exact a
   .obtain rfl:=gD.1 a;exact f
  refine⟨⟨by simp;omega,λx a=>h.small x (c x a),λx a y b=>h.apart x (c x a) y (c y b),λx a y b=>h.one x (c x a) y (c y b),λx a k l=>?_⟩,⟨λ_=>⟨p,f,rfl⟩,λ_=>rfl⟩⟩;obtain⟨q,g,e⟩:=h.below x (c x a) k l;exact⟨q,by simp[g],e⟩
 .have n:∀p∈d,p.1≠t:=λp f e=>l ⟨p,f,e⟩;obtain⟨o,u,v,w⟩:=Lj h n j;obtain⟨k,D⟩:=r;dsimp only at o u v w;subst o;have m:∀p∈d,eG p≠eG (t,k):=λp f e=>v ⟨p,f,e⟩;refine⟨⟨by simp;omega,?_,?_,?_,?_⟩,⟨λe=>(by cases e),λe=>absurd e l⟩⟩
  .intro x a;rcases lW.1 a with a|a
   .exact h.small x a
   .obtain rfl:=gD.1 a;exact⟨A,u⟩
  .intro x a y b e;rcases lW.1 a with a|a
   .rcases lW.1 b with b|b
    .exact h.apart x a y b e
    .obtain rfl:=gD.1 b;exact absurd e (m x a)
   .obtain rfl:=gD.1 a;rcases lW.1 b with b|b
    .exact absurd e.symm (m y b)
    .obtain rfl:=gD.1 b;rfl
  .intro x a y b e;rcases lW.1 a with a|a
   .rcases lW.1 b with b|b
    .exact h.one x a y b e
    .obtain rfl:=gD.1 b;exact absurd e (n x a)
   .obtain rfl:=gD.1 a;rcases lW.1 b with b|b
    .exact absurd e.symm (n y b)
    .obtain rfl:=gD.1 b;rfl
  .intro x a i z;rcases lW.1 a with a|a
   .obtain⟨q,g,e⟩:=h.below x a i z;exact⟨q,by simp[g],e⟩
   .obtain rfl:=gD.1 a;obtain⟨q,g,e⟩:=w i (jO _) z;exact⟨q,by simp[g],n q g,e⟩
theorem nw.nil:nw []:=⟨by simp,by simp,by simp,by simp,by simp⟩
end Go.Ge
