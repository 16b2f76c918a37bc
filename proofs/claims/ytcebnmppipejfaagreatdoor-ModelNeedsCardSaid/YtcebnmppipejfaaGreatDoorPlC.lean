import Derived.Test.YtcebnmppipejfaaGreatDoorPlB
set_option linter.unusedSectionVars false
set_option linter.unusedVariables false
set_option linter.unusedSimpArgs false
noncomputable section
open Go.IntKind (i64)
namespace Go.Ge
variable [Lp]
def cC:aq->List aq
 | []=>[[]]
 | b::r=>if b=47 then []::cC r else match cC r with
   | h::t=>(b::h)::t
   | []=>[[b]]
theorem pb(s:aq):cC s≠[]:=by
 cases s with
 | nil=>simp[cC]
 | cons b r =>
   unfold cC;split
   .simp
   .split<;>simp
theorem kt{b:UInt8}(h:b≠47){r x:aq}{t:List aq}(e:cC r=x::t):cC (b::r)=(b::x)::t:=by
 rw[cC,bb h,e]
def parts(p:aq):List aq:=if p=[] then [] else cC p
theorem ac1(c:UInt8):aL (u8 c) 47=decide (c=47):=Cl (n:=47)
theorem ahV(c:UInt8):aL (u8 c) 0=decide (c=0):=Cl (n:=0)
theorem gv(p:aq)(w:p.length<=1048576):dT (p,())=some (parts p,()):=by
 unfold dT parts;dsimp only;by_cases h:p=[]
 .rw[fF h,ae,bd h]
 .rw[cw h,af,bb h];have key:=uB (f:=jZ (p,())) p (λ(s:aq×List aq) i=>(((),s.1,(i:Int),()),s.2,()))
   (λi s x=>some (.inl<|if x=47 then([],s.2++[s.1]) else(s.1++[x],s.2))) (λi s=>(((),s.1,(i:Int),()),s.2,())) (λi s=>s.1.length<=i/\s.2.length<=i)
   (λs i x n v q=>by
    unfold jZ;dsimp only;rw[au v,ae,az n,aa,ac1];by_cases b:x=47
    .rw[cd b,ae,b7 (by simp only[dW,gi];omega),ae,aa,aT (by omega)];simp only[bd b];rfl
    .rw[dL b,af,aT (by omega),qE (by omega) (by omega),ae,sub_one n,b7 (by simp only[dW,gi];omega),ae,aa];simp only[bb b];rfl)
   (λs i x y n q d=>by
    obtain rfl:=XT (aE d);by_cases b:x=47
    .simp only[bd b,iP,dW,gi];omega
    .simp only[bb b,iP,dW,gi];omega)
   (λs q=>by
    unfold jZ;dsimp only;rw[aB,af];rfl)
   (λs i x _ _ h=>by cases h) ([],[]) ⟨cD _,cD _⟩
  have run:∀(r:aq) (i:Nat) (a:aq) (o:List aq),∃e c j,vf (λi (s:aq×List aq) x=>some (.inl<|if x=47 then([],s.2++[s.1]) else(s.1++[x],s.2))) (λi (s:aq×List aq)=>(((),s.1,(i:Int),()),s.2,())) r i (a,o)=some (((),e,j,()),c,()) /\
    c++[e]=o++(match cC r with|h::t=>(a++h)::t|[]=>[a])/\c.length<=o.length+r.length:=by
   intro r;induction r with
   | nil=>intro i a o;exact⟨a,o,_,rfl,by simp[cC],by simp⟩
   | cons x r u =>
     intro i a o;by_cases b:x=47
     .obtain⟨e,c,j,g,k,l⟩:=u (i+1) [] (o++[a]);refine⟨e,c,j,?_,?_,?_⟩
      .unfold vf;simp only[bd b];exact g
      .rw[k,cC,bd b];cases d:cC r with
       | nil=>exact absurd d (pb r)
       | cons h t=>simp
      .simp only[iP,dW,gi] at l⊢;omega
     .obtain⟨e,c,j,g,k,l⟩:=u (i+1) (a++[x]) o;refine⟨e,c,j,?_,?_,?_⟩
      .unfold vf;simp only[bb b];exact g
      .rw[k];cases d:cC r with
       | nil=>exact absurd d (pb r)
       | cons h t=>rw[kt b d];simp
      .simp only[dW] at l⊢;omega
  obtain⟨e,c,j,g,k,l⟩:=run p 0 [] [];have m:Loop (jZ (p,())) (((),([]:aq),(0:Int),()),([]:List aq),())=some (((),e,j,()),c,()):=key.trans g;rw[m,aa];dsimp only;simp only[gi] at l;rw[b7<|by simp only[dW,gi];omega,ae,Dh,k];cases d:cC p with
  | nil=>exact absurd d (pb p)
  | cons h t=>simp
def aM:List aq->aq
 | []=>[]
 | [x]=>x
 | x::y::r=>x++47::aM (y::r)
theorem tp(s:aq):aM (cC s)=s:=by
 induction s with
 | nil=>rfl
 | cons b r a =>
   by_cases h:b=47
   .subst h;rw[cC,bd rfl];cases c:cC r with
    | nil=>exact absurd c (pb r)
    | cons x t=>rw[aM,<-c,a];rfl
   .cases c:cC r with
    | nil=>exact absurd c (pb r)
    | cons x t =>
      rw[kt h c];rw[c] at a;cases t with
      | nil=>rw[aM] at a⊢;rw[a]
      | cons y t=>rw[aM] at a⊢;rw[zP,a]
theorem fJ(p:aq):aM (parts p)=p:=by
 unfold parts;by_cases h:p=[]
 .rw[bd h,h];rfl
 .rw[bb h,tp]
theorem Dq(x:aq)(a:47∉x)(r:aq):cC (x++47::r)=x::cC r:=by
 induction x with
 | nil=>rw[wY,cC,bd rfl]
 | cons b x c =>
   simp only[fY,HF] at a;exact kt (λe=>a.1 e.symm) (c a.2)
theorem nf(x:aq)(a:47∉x):cC x=[x]:=by
 induction x with
 | nil=>rfl
 | cons b x c =>
   simp only[fY,HF] at a;exact kt (λe=>a.1 e.symm) (c a.2)
theorem E2(l:List aq)(a:l≠[])(h:∀x∈l,47∉x):cC (aM l)=l:=by
 induction l with
 | nil=>exact absurd rfl a
 | cons x r b =>
   cases r with
   | nil=>rw[aM];exact nf x (h x<|oB ..)
   | cons y r =>
     rw[aM,Dq x (h x<|oB ..),b (by simp) λz c=>h z (oA _ c)]
theorem WS(s:aq):∀x∈cC s,47∉x/\x.length<=s.length:=by
 induction s with
 | nil=>intro x a;simp[cC] at a;subst a;simp
 | cons b r d =>
   intro x a;by_cases h:b=47
   .rw[cC,bd h] at a;rcases fY.1 a with rfl|a
    .simp
    .obtain⟨c,g⟩:=d x a;exact⟨c,by simp only[dW];omega⟩
   .cases f:cC r with
    | nil=>exact absurd f (pb r)
    | cons y t =>
      rw[kt h f] at a;rw[f] at d;rcases fY.1 a with rfl|a
      .obtain⟨c,g⟩:=d y (oB ..);exact⟨by simp only[fY,HF];exact⟨λe=>h e.symm,c⟩,by simp only[dW];omega⟩
      .obtain⟨c,g⟩:=d x (oA _ a);exact⟨c,by simp only[dW];omega⟩
theorem Cn(s:aq):(cC s).length<=s.length+1:=by
 induction s with
 | nil=>simp[cC]
 | cons b r c =>
   by_cases h:b=47
   .rw[cC,bd h];simp only[dW];omega
   .cases a:cC r with
    | nil=>exact absurd a (pb r)
    | cons y t=>rw[kt h a];rw[a] at c;simp only[dW] at c⊢;omega
theorem Gz(p:aq):∀x∈parts p,47∉x/\x.length<=p.length:=by
 unfold parts;by_cases h:p=[]
 .rw[bd h];intro x a;cases a
 .rw[bb h];exact WS p
theorem kI(p:aq):(parts p).length<=p.length+1:=by
 unfold parts;by_cases h:p=[]
 .rw[bd h];simp
 .rw[bb h];exact Cn p
theorem mE(l:List aq)(h:∀x∈l,47∉x/\x≠[]):parts (aM l)=l:=by
 unfold parts;cases l with
 | nil=>rfl
 | cons x r =>
   have a:aM (x::r)≠[]:=by
    have:=(h x<|oB ..).2;cases r with
    | nil=>rw[aM];exact this
    | cons y r=>rw[aM];simp
   rw[bb a,E2 _ (by simp) λz b=>(h z b).1]
theorem Ar(l:List aq)(s:l.length<=1048576)(k:(aM l).length<=1048576):mY (l,())=some (aM l,()):=by
 unfold mY;have pre:∀(a b:List aq),a≠[]->b≠[]->aM (a++b)=aM a++47::aM b:=by
  intro a;induction a with
  | nil=>intro b h;exact absurd rfl h
  | cons x r p =>
    intro b _ c;cases r with
    | nil =>
      cases b with
      | nil=>exact absurd rfl c
      | cons y b=>rfl
    | cons y r =>
      have:=p b (by simp) c;rw[zP,zP,aM,aM,<-zP,this];simp
 have mono:∀i,(aM<|l.take i).length<=(aM l).length:=by
  intro i;by_cases m:l.take i=[]
  .rw[m];simp[aM]
  .by_cases c:l.drop i=[]
   .rw[show l.take i=l from by have:=x6 i l;rw[c,wX] at this;exact this];exact cD _
   .have:=pre _ _ m c;rw[x6] at this;rw[this,iP];omega
 have step:∀i x,l[i]?=some x->aM (l.take<|i+1)=(if 0<i then aM (l.take i)++[47] else aM (l.take i))++x:=by
  intro i x k;have e:l.take (i+1)=l.take i++[x]:=by rw[Qk,k];rfl
  rw[e];cases i with
  | zero=>rfl
  | succ i =>
    rw[bd<|by omega,pre _ _ (by have:=aG k;intro q;have:=congrArg List.length q;rw[gM] at this;simp only[gi] at this;omega) (by simp)];simp[aM]
 have key:=cq (f:=ld (l,())) (r:=((aM l,(l.length:Int),()),())) l.length (λi=>((aM<|l.take i,(i:Int),()),())) (λi n=>by
  obtain⟨x,d⟩:∃x,l[i]?=some x:=⟨_,jE n⟩;have g:=step i x d;have c:=mono (i+1);rw[g] at c;unfold ld;dsimp only;rw[au n,ae];by_cases o:0<i
  .rw[bd o] at g c;rw[iP,iP] at c;simp only[dW,gi] at c;rw[aU<|by omega,ae,b7 (by simp only[dW,gi];omega),ae,aa,az d,aa];dsimp only;rw[b7<|by simp only[Dh,iP,dW,gi];omega,ae,aT (by omega),g];rfl
  .rw[bb o] at g c;rw[iP] at c;rw[aD<|by omega,af,aa,az d,aa];dsimp only;rw[b7<|by omega,ae,aT (by omega),g];rfl) (by
  unfold ld;dsimp only;rw[aB,af,Iw];rfl)
 have j:Loop (ld (l,())) ((([]:aq),(0:Int),()),())=some ((aM l,(l.length:Int),()),()):=key;rw[j,aa]
def zI(s:aq):Bool:=decide (s≠[46]/\s≠[46,46]/\1<=s.length/\s.length<=32/\0∉s)
theorem N4(s:aq)(y:s.length<=1048576):pL (s,())=some (zI s&&decide (47∉s),()):=by
 unfold pL;have key:=uB (f:=jc (s,())) s (λ(_:ai) i=>((false,(i:Int),()),()))
  (λi _ x=>some (if x=0\/x=47 then .inr (1,(false,(i:Int),()),()) else .inl ())) (λi _=>(0,(false,(i:Int),()),())) (λ_ _=>True)
  (λu i x p t _=>by
   unfold jc;dsimp only;rw[au t,ae,az p,aa,ahV];by_cases k:x=0
   .rw[cd k,aH,af,aa,ae,bd (.inl k)];rfl
   .rw[dL k,aA,ae,aa,ac1,aa];by_cases g:x=47
    .rw[cd g,ae,bd (.inr g)];rfl
    .rw[dL g,af,bb (by simp[k,g]),aT (by omega)];rfl)
  (λ_ _ _ _ _ _ _=>trivial)
  (λu _=>by
   unfold jc;dsimp only;rw[aB,af])
  (λ_ _ _ _ _ h=>by cases h) () trivial
 have run:∀(r:aq) (i:Nat),∃q,vf (λi (_:ai) x=>some (if x=0\/x=47 then Sum.inr (1,(false,(i:Int),()),()) else Sum.inl ())) (λi _=>((0:Nat),(false,(i:Int),()),())) r i ()=some q /\
   q.1=(if 0∉r/\47∉r then 0 else 1)/\q.2.1.1=false:=by
  intro r;induction r with
  | nil=>intro i;exact⟨_,rfl,by simp,rfl⟩
  | cons x r v =>
    intro i;unfold vf;by_cases h:x=0\/x=47
    .simp only[bd h];refine⟨_,rfl,?_,rfl⟩;rw[bb];rcases h with h|h<;>simp[h]
    .simp only[bb h];obtain⟨q,g,l,m⟩:=v (i+1);refine⟨q,g,?_,m⟩;rw[l];simp only[HF] at h;simp only[fY,HF];have n:¬(0=x):=λe=>h.1 e.symm;have o:¬(47=x):=λe=>h.2 e.symm;simp[n,o]
 obtain⟨q,g,l,m⟩:=run s 0;have j:Loop (jc (s,())) ((false,(0:Int),()),())=some q:=key.trans g;rw[j,aa];have el:ca 1 (len s)=decide (1<=s.length):=by unfold ca len;apply ky.2;omega
 have w:ca (len s) 32=decide (s.length<=32):=JY 32 s;rw[el,w,l,m];unfold zI;by_cases a:0∉s/\47∉s
 .rw[bd a,eJ,ae];by_cases c:1<=s.length
  .by_cases d:s.length<=32
   .by_cases e:s=[46]
    .simp[e,aj,bz,nt]
    .by_cases f:s=[46,46]
     .simp[f,aj,bz,nt]
     .simp[a,c,d,e,f,aj,bz,nt]
   .simp[d,c,aj]
  .simp[c,aj]
 .rw[bb a,jI,af]
  congr 2
  by_cases b:0∈s
  .simp[b]
  .have:47∈s:=by
    have:=a;simp only[not_and,abj] at this;exact this b
   simp[this]
theorem PR(p:aq)(n:p.length<=1048576):uG (p,())=some ((parts p).all zI&&decide ((parts p).length<=8)&&decide (p.length<=96),()):=by
 unfold uG;dsimp only;rw[gv p n,aa];have k:=Gz p;have o:=kI p;generalize parts p=l at k o;have key:=uB (f:=nS (l,())) l (λ(_:ai) i=>((false,(i:Int),()),()))
  (λi _ x=>some (if zI x=false then .inr (1,(false,(i:Int),()),()) else .inl ())) (λi _=>(0,(false,(i:Int),()),())) (λ_ _=>True)
  (λu i x m s _=>by
   unfold nS;dsimp only;have c:=k x (iy m);rw[au s,ae,az m,aa,N4 x (by omega),aa];dsimp only;rw[cd c.1,Bool.and_true];cases h:zI x with
   | true=>rw[aH,af,bb (by simp),aT (by omega)];rfl
   | false=>rw[aA,ae,bd rfl];rfl)
  (λ_ _ _ _ _ _ _=>trivial)
  (λu _=>by
   unfold nS;dsimp only;rw[aB,af])
  (λ_ _ _ _ _ h=>by cases h) () trivial
 have run:∀(r:List aq) (i:Nat),∃q,vf (λi (_:ai) x=>some (if zI x=false then Sum.inr (1,(false,(i:Int),()),()) else Sum.inl ())) (λi _=>((0:Nat),(false,(i:Int),()),())) r i ()=some q /\
   q.1=(if r.all zI=true then 0 else 1)/\q.2.1.1=false:=by
  intro r;induction r with
  | nil=>intro i;exact⟨_,rfl,rfl,rfl⟩
  | cons x r t =>
    intro i;unfold vf;cases h:zI x with
    | false=>exact⟨_,rfl,by simp[h],rfl⟩
    | true =>
      obtain⟨q,d,e,g⟩:=t (i+1);exact⟨q,d,by rw[e];simp[h],g⟩
 obtain⟨q,d,e,g⟩:=run l 0;have b:Loop (nS (l,())) ((false,(0:Int),()),())=some q:=key.trans d;rw[b,aa,e,g];have v:ca (len l) 8=decide (l.length<=8):=JY 8 l;have j:ca (len p) 96=decide (p.length<=96):=JY 96 p;rw[v,j];cases h:l.all zI with
 | true =>
   rw[bd rfl,eJ,ae];by_cases a:l.length<=8<;>simp[a,aj]
 | false=>rw[bb<|by simp,jI,af];simp
def zl(x:aq):Bool:=decide (x≠[]/\x≠[46])
def names(s:aq):List aq:=(parts s).filter zl
def tq(s:aq):Bool:=(names s).all zI&&decide (s.head?≠some 47)&&decide ((names s).length<=8)&&decide ((aM<|names s).length<=96)
def Dr(s:aq):aq×Int:=if tq s then(aM<|names s,0) else([],2)
theorem BB(s:aq):∀x∈names s,47∉x/\x≠[]/\x.length<=s.length:=by
 intro x b;obtain⟨c,a⟩:=wZ.1 b;obtain⟨d,e⟩:=Gz s x c;simp only[zl,nI] at a;exact⟨d,a.1,e⟩
theorem Rx(s:aq):(names s).length<=s.length+1:=iz (O0 _ _) (kI s)
theorem Uj(s:aq):parts (aM<|names s)=names s:=mE _ λx a=>⟨(BB s x a).1,(BB s x a).2.1⟩
theorem Ds(s:aq):(aM<|names s).length<=s.length:=by
 have gen:∀(l:List aq),(aM<|l.filter zl).length<=(aM l).length:=by
  intro l;induction l with
  | nil=>simp[aM]
  | cons x r a =>
    by_cases b:zl x=true
    .rw[afy b];cases c:r.filter zl with
     | nil =>
       cases r with
       | nil=>exact cD _
       | cons y r=>simp only[aM,iP,dW];omega
     | cons y q =>
       rw[c] at a;cases r with
       | nil=>simp at c
       | cons z r=>simp only[aM,iP,dW] at a⊢;omega
    .rw[afz b];cases r with
     | nil=>simp[aM]
     | cons z r=>rw[aM];simp only[iP,dW];omega
 have:=gen (parts s);rw[fJ] at this;exact this
theorem Ry(s:aq)(u:s.length<=4096):rh (s,())=some ((Dr s).1,(Dr s).2,()):=by
 unfold rh;dsimp only;rw[gv s<|by omega,aa];have v:=Gz s;have w:=kI s;have key:=uB (f:=j0 (parts s,())) (parts s) (λ(o:List aq) i=>(((),(i:Int),()),o,()))
  (λi o x=>some (.inl<|if zl x=true then o++[x] else o)) (λi o=>(((),(i:Int),()),o,())) (λi o=>o.length<=i)
  (λo i x g l m=>by
   unfold j0;dsimp only;rw[au l,ae,az g,aa,aa];have d:zl x=(nt (bz x [])&&nt (bz x [46])):=by simp[zl,bz,nt]
   by_cases a:x=[]
   .rw[fF a,aH,af,aa,af,aa,aT (by omega),bb (by rw[d,fF a];simp[nt])];rfl
   .by_cases b:x=[46]
    .rw[cw a,aA,ae,fF b,aH,aa,af,aa,aT (by omega),bb (by rw[d,fF b];simp[nt])];rfl
    .rw[cw a,aA,ae,cw b,aA,aa,ae,aa,b7 (by simp only[dW,gi];omega),ae,aa,aT (by omega),bd (by rw[d,cw a,cw b];rfl)];rfl)
  (λo i x y g m n=>by
   obtain rfl:=XT (aE n);by_cases a:zl x=true
   .rw[bd a];simp only[iP,dW,gi];omega
   .rw[bb a];omega)
  (λo _=>by
   unfold j0;dsimp only;rw[aB,af];rfl)
  (λ_ _ _ _ _ h=>by cases h) [] (cD _)
 have run:∀(r:List aq) (i:Nat) (o:List aq),∃j,vf (λi (o:List aq) x=>some (Sum.inl<|if zl x=true then o++[x] else o)) (λi o=>(((),(i:Int),()),o,())) r i o=some (((),j,()),o++r.filter zl,()):=by
  intro r;induction r with
  | nil=>intro i o;exact⟨(i:Int),by simp[vf]⟩
  | cons x r k =>
    intro i o;unfold vf;by_cases d:zl x=true
    .simp only[bd d];obtain⟨j,h⟩:=k (i+1) (o++[x]);exact⟨j,by rw[h,afy d];simp⟩
    .simp only[bb d];obtain⟨j,h⟩:=k (i+1) o;exact⟨j,by rw[h,afz d]⟩
 obtain⟨j,p⟩:=run (parts s) 0 [];have e:Loop (j0 (parts s,())) (((),(0:Int),()),([]:List aq),())=some (((),j,()),names s,()):=by
  have:=key.trans p;rw[wY] at this;exact this
 have z:=Ds s;have q:=Rx s;rw[e,aa];dsimp only;rw[Ar _ (by omega)<|by omega,aa];have e0:ab (aj (nt<|bz s []) (ab (idx s 0) λt=>some (aL (u8 t) 47))<|some false)=λ(f:Bool->Option (aq×Int×ai))=>f (decide<|s.head?=some 47):=by
  funext f;cases s with
  | nil=>rfl
  | cons b r =>
    rw[cw<|by simp,aA,ae,show idx (b::r) 0=some b from rfl,aa,ac1,aa]
    congr 1
    simp
 rw[e0];dsimp only;rw[PR _<|by omega,aa,Uj];unfold Dr tq;dsimp only;by_cases a:s.head?=some 47
 .simp[a,aj,nt,ab]
 .cases A:(names s).all zI with
  | false=>simp[a,aj,nt,ab]
  | true =>
    by_cases b:(names s).length<=8
    .by_cases c:(aM<|names s).length<=96<;>simp[a,b,c,aj,nt,ab]
    .simp[a,b,aj,nt,ab]
def LU(p:aq):Nat->Option Nat
 | 0=>none
 | n+1=>if p[n]?=some 47 then some n else LU p n
theorem WT:∀{p:aq} {n k:Nat},LU p n=some k->k<n/\p[k]?=some 47/\∀j,k<j->j<n->p[j]?≠some 47:=by
 intro p n;induction n with
 | zero=>intro k h;cases h
 | succ n c =>
   intro k h;rw[LU] at h;split at h
   .rename_i a;obtain rfl:=aE h;exact⟨SI _,a,λj d b=>by omega⟩
   .rename_i a;obtain⟨d,b,f⟩:=c h;refine⟨by omega,b,λj g i=>?_⟩;by_cases e:j=n
    .rw[e];exact a
    .exact f j g (by omega)
theorem WU:∀{p:aq} {n:Nat},LU p n=none->∀j,j<n->p[j]?≠some 47:=by
 intro p n;induction n with
 | zero=>intro _ j h;omega
 | succ n a =>
   intro h j c;rw[LU] at h;split at h
   .cases h
   .rename_i b;by_cases e:j=n
    .rw[e];exact b
    .exact a h j (by omega)
def bC(p:aq):aq×aq:=match LU p p.length with|some k=>(p.take k,p.drop (k+1))|none=>([],p)
theorem sb(p:aq):(47∉p/\bC p=([],p))\/∃a b,p=a++47::b/\47∉b/\bC p=(a,b):=by
 unfold bC;cases h:LU p p.length with
 | none =>
   refine .inl ⟨λd=>?_,rfl⟩;obtain⟨j,c,e⟩:=O1 d;exact WU h j c (by rw[jE c,e])
 | some k =>
   obtain⟨l,f,g⟩:=WT h;refine .inr ⟨p.take k,p.drop (k+1),?_,λd=>?_,rfl⟩
   .obtain⟨i,e⟩:=ix.1 f;rw[<-e,<-BJ i,x6]
   .obtain⟨j,c,e⟩:=O1 d;rw[ma] at c;rw[List.getElem_drop] at e;exact g (k+1+j) (by omega) (by omega) (by rw[jE<|by omega,e])
theorem As(a b:aq)(g:47∉b):cC (a++47::b)=cC a++[b]:=by
 induction a with
 | nil =>
   have e:cC (47::b)=[]::cC b:=by rw[cC,bd rfl]
   rw[wY,e,nf b g];rfl
 | cons c a d =>
   rw[zP];by_cases h:c=47
   .rw[cC,bd h,d]
    conv=>rhs;rw[cC,bd h]
    rfl
   .cases f:cC a with
    | nil=>exact absurd f (pb a)
    | cons x t =>
      rw[f] at d;rw[kt h f,kt h (by rw[d];rfl)];rfl
theorem tr(p:aq)(h:p.length<=4096):jy (p,())=some ((bC p).1,(bC p).2,()):=by
 unfold jy;dsimp only;rw[gv p<|by omega,aa];by_cases i:p=[]
 .subst i;rfl
 have c:parts p=cC p:=by unfold parts;rw[bb i]
 rcases sb p with ⟨d,f⟩|⟨a,b,rfl,d,f⟩
 .rw[f,c,nf p d];dsimp only;have g:mY (sub [p] 0<|minus (cE .i64 (len [p]) 1) 0,())=some ([],()):=by
   have e:sub [p] 0 (minus (cE .i64 (len [p]) 1) 0)=[]:=rfl;rw[e];exact Ar [] (by simp) (by simp[aM])
  rw[show aL (len [p]) 0=false from rfl,af,show inside 0 (cE .i64 (len [p]) 1) (len [p])=true from rfl,ae,g,aa];rfl
 .rw[f,c,As a b d];dsimp only;have j:=Cn a;rw[iP] at h;simp only[dW] at h;have g:cE .i64 (len<|cC a++[b]) 1=(((cC a).length:Nat):Int):=by
   rw[bM,iP,fo (by simp only[dW,gi];omega) (by simp only[dW,gi];omega)];simp only[dW,gi];omega
  rw[g,aF (by rw[bM,iP];simp only[dW,gi];omega),af,aY (by omega) (by omega) (by rw[bM,iP];omega),ae,jU,Kp,
   Ar _ (by omega) (by rw[tp];omega),tp,aa,vw]
  simp[ab]
def sd(d n:aq):aq:=if d=[]\/n=[] then d++n else d++47::n
theorem yx(d n:aq)(c:d.length<=1048576)(e:n.length<=1048576):mZ (d,n,())=some (sd d n,()):=by
 unfold mZ sd;dsimp only;by_cases a:d=[]
 .rw[fF a,ae,bd (.inl a),a];rfl
 .rw[cw a,af];by_cases b:n=[]
  .rw[fF b,ae,bd (.inr b),b,wX]
  .rw[cw b,af,b7 (by simp only[dW,gi];omega),ae,b7 (by simp only[Dh,iP,dW,gi];omega),ae,bb (by simp[a,b])];simp[app]
def cH(x y:List aq):Bool:=decide (y.length<x.length/\x.take y.length=y)
theorem Z6{b:Type}[DecidableEq b](Q:Nat->Nat->Nat×(Bool×Int×ai)×ai)(a:∀i j,(Q i j).1=j/\(Q i j).2.1.1=false):∀(r:List (b×b)) (i:Nat),∃q,vf (λi (_:ai) p=>some (if p.1=p.2 then Sum.inl () else Sum.inr (Q i 1))) (λi _=>Q i 0) r i ()=some q /\
  q.1=(if r.all (λp=>decide (p.1=p.2))=true then 0 else 1)/\q.2.1.1=false:=by
 intro r;induction r with
 | nil=>intro i;exact⟨_,rfl,(a _ _).1,(a _ _).2⟩
 | cons p r c =>
   intro i;unfold vf;by_cases h:p.1=p.2
   .simp only[bd h];obtain⟨q,d,e,f⟩:=c (i+1);exact⟨q,d,by rw[e,O8,cd h,abv],f⟩
   .simp only[bb h];exact⟨_,rfl,by rw[(a _ _).1,O8,dL h,Bool.false_and,bb (by simp)],(a _ _).2⟩
theorem Rz(p d:aq)(k:p.length<=4096)(r:d.length<=4096):ri (p,d,())=some (cH (parts p)<|parts d,()):=by
 unfold ri cH;dsimp only;have b:=kI p;have g:=kI d;rw[gv p<|by omega,aa,gv d (by omega),aa];dsimp only;rw[LJ];generalize parts p=x at b;generalize parts d=y at g;by_cases h:y.length<x.length
 .rw[dL<|by omega,af];have e:(x.zip y).length=y.length:=by rw[List.length_zip];omega
  have key:=uB (f:=j6 (x,()) (y,())) (x.zip y) (λ(_:ai) i=>((false,(i:Int),()),()))
   (λi _ p=>some (if p.1=p.2 then .inl () else .inr (1,(false,(i:Int),()),()))) (λi _=>(0,(false,(i:Int),()),())) (λ_ _=>True)
   (λu i p k s _=>by
    obtain⟨b,g⟩:=agq k;have l:=aG b;unfold j6;dsimp only;rw[au<|aG b,au (aG g),ae,ae,az b,aa,az g,aa];by_cases e:p.1=p.2
    .rw[fF e,aH,af,aT (by omega),bd e];rfl
    .rw[cw e,aA,ae,bb e];rfl)
   (λ_ _ _ _ _ _ _=>trivial)
   (λu _=>by
    unfold j6;dsimp only;rw[e,aB,af,af])
   (λ_ _ _ _ _ h=>by cases h) () trivial
  obtain⟨q,m,n,o⟩:=Z6 (λi j=>(j,(false,(i:Int),()),())) (λ_ _=>⟨rfl,rfl⟩) (x.zip y) 0;have c:Loop (j6 (x,()) (y,())) ((false,(0:Int),()),())=some q:=key.trans m;rw[c,aa,n,o,acG,show min x.length y.length=y.length by omega,Iw];by_cases a:x.take y.length=y
  .rw[cd a,bd rfl,eJ,ae];simp[h,a]
  .rw[dL a,bb (by simp),jI,af];simp[a]
 .rw[cd<|by omega,ae];simp[h]
theorem Au(a b:aq)(G:a.length<=4096)(H:b.length<=4096):lf (a,b,())=some (cmpL (parts a)<|parts b,()):=by
 unfold lf;dsimp only;have z:=kI a;have A:=kI b;rw[gv a<|by omega,aa,gv b (by omega),aa];generalize parts a=x at z;generalize parts b=y at A;have run:∀(n i:Nat),x.length-i<=n->i<=x.length->i<=y.length->∃q,Loop (dk (x,()) (y,())) ((0,(i:Int),()),())=some q /\
   (if q.1=0 then cmpL (x.drop i) (y.drop i)=(if x.length<y.length then -1 else if y.length<x.length then 1 else 0) else q.1=1/\q.2.1.1=cmpL (x.drop i) (y.drop i)):=by
  intro n;induction n with
  | zero =>
    intro i B k o;obtain rfl:i=x.length:=by omega
    refine⟨(0,(0,(x.length:Int),()),()),?_,?_⟩
    .rw[aR];have:dk (x,()) (y,()) ((0,(x.length:Int),()),())=some (.inr (0,(0,(x.length:Int),()),())):=by
      unfold dk;dsimp only;rw[aB,af,af]
     rw[this];rfl
    .rw[bd rfl,SJ];by_cases h:x.length<y.length
     .rw[bd h];cases hd:y.drop x.length with
      | nil=>have:=congrArg List.length hd;rw[ma] at this;simp only[gi] at this;omega
      | cons b r=>rfl
     .rw[bb h,Kh (by omega),bb (by omega)];rfl
  | succ n p =>
    intro i B k o;by_cases hi:i<x.length
    .obtain⟨u,s⟩:∃u,x[i]?=some u:=⟨_,jE hi⟩;obtain⟨C,f⟩:=ix.1 s;have t:x.drop i=u::x.drop (i+1):=by rw[BJ hi,f]
     rw[aR];by_cases d:i<y.length
     .obtain⟨v,w⟩:∃v,y[i]?=some v:=⟨_,jE d⟩;obtain⟨D,g⟩:=ix.1 w;have E:y.drop i=v::y.drop (i+1):=by rw[BJ d,g]
      have st:dk (x,()) (y,()) ((0,(i:Int),()),())=if u=v then some (.inl ((0,((i+1:Nat):Int),()),())) else some (.inr (1,(if jH u v=true then -1 else 1,((i:Int),())),())):=by
       unfold dk;dsimp only;rw[au hi,au d,ae,ae,az s,aa,az w,aa,aa,aa,agp];rcases JZ u v with h|rfl|h
       .rw[h,ae,bb (Rg h),bd rfl]
       .rw[mx,af,af,bd rfl,aT (by omega)]
       .rw[xC h,af,h,ae,bb (λe=>Rg h e.symm),bb (by simp)]
      rw[st,t,E,cmpL];by_cases e:u=v
      .rw[bd e,bd e];exact p (i+1) (by omega) (by omega) (by omega)
      .rw[bb e,bb e];refine⟨_,rfl,?_⟩;rw[bb<|by simp];exact⟨rfl,rfl⟩
     .have st:dk (x,()) (y,()) ((0,(i:Int),()),())=some (.inr (0,(0,(i:Int),()),())):=by
       unfold dk;dsimp only;rw[au hi,EP,dL d,ae,af]
      rw[st];refine⟨_,rfl,?_⟩;rw[bd rfl,t,show y.drop i=[] from Kh (by omega),bb (by omega),bd (by omega)];rfl
    .exact p i (by omega) k o
 obtain⟨q,F,c⟩:=run x.length 0 (by omega) (by omega) (by omega);have j:Loop (dk (x,()) (y,())) ((0,(0:Int),()),())=some q:=F;rw[j,aa];rw[CT,CT] at c;by_cases h:q.1=0
 .rw[bd h] at c;rw[h,eJ,ae,T2,T2,c];by_cases l:x.length<y.length
  .rw[cd l,ae,bd l]
  .rw[dL l,af,bb l];by_cases m:y.length<x.length
   .rw[cd m,ae,bd m]
   .rw[dL m,af,bb m]
 .rw[bb h] at c;rw[c.1,jI,af,c.2]
theorem Uk(s p:aq):cM (s,p,())=some (decide<|s.take p.length=p,()):=by
 unfold cM;dsimp only;rw[LJ];by_cases h:p.length<=s.length
 .rw[cd h,ae,show inside 0 (len p) (len s)=true from aY (by decide) (by rw[bM];omega) (by rw[bM,bM];omega),ae,PE,aa];rfl
 .rw[dL h,af,aa,dL];intro e;have:=congrArg List.length e;rw[gM] at this;omega
theorem WV(s p:aq):cT (s,p,())=some (decide<|s.take p.length=p,()):=by
 unfold cT;dsimp only;rw[Uk,aa]
theorem Dt(s p:aq):mD (s,p,())=some (decide<|s.take p.length=p,()):=by
 unfold mD;dsimp only;rw[LJ];by_cases h:p.length<=s.length
 .rw[cd h,ae,show inside 0 (len p) (len s)=true from aY (by decide) (by rw[bM];omega) (by rw[bM,bM];omega),ae,PE,aa];rfl
 .rw[dL h,af,aa,dL];intro e;have:=congrArg List.length e;rw[gM] at this;omega
def wh:aq:=[46,119,104,46]
def mF(n:aq):Int×aq :=
 if n.take 4=wh then(if n.drop 4=[46,119,104,46,46,111,112,113] then(2,[]) else if(n.drop 4).take 4=wh\/n.drop 4=[]\/n.drop 4=[46]\/n.drop 4=[46,46] then(3,[]) else(1,n.drop 4)) else(0,n)
theorem H9(n:aq):pM (n,())=some ((mF n).1,(mF n).2,()):=by
 unfold pM mF;dsimp only;rw[Dt,Dt];by_cases h:n.take 4=wh
 .have e:n=wh++n.drop 4:=by rw[<-h,x6]
  rw[bd h];generalize g:n.drop 4=r at e;by_cases a:r=[46,119,104,46,46,111,112,113]
  .rw[bd a,fF (by rw[e,a];rfl),ae]
  .rw[bb a,cw (by rw[e];intro q;exact a (by simpa [wh] using q)),af,aa];dsimp only;have i:decide (n.take ([46,119,104,46,46,119,104,46]:aq).length=[46,119,104,46,46,119,104,46])=decide (r.take 4=wh):=by
    rw[e];apply ky.2;simp[wh]
   have j:bz n [46,119,104,46]=decide (r=[]):=by
    rw[e];unfold bz;apply ky.2;simp[wh]
   have k:bz n [46,119,104,46,46]=decide (r=[46]):=by
    rw[e];unfold bz;apply ky.2;simp[wh]
   have l:bz n [46,119,104,46,46,46]=decide (r=[46,46]):=by
    rw[e];unfold bz;apply ky.2;simp[wh]
   have m:decide (n.take ([46,119,104,46]:aq).length=[46,119,104,46])=true:=cd h;rw[i,j,k,l,m];have o:aj (aj (nt<|aj (nt<|aj (nt<|decide<|r.take 4=wh) (decide<|r=[]) true) (decide<|r=[46]) true) (decide<|r=[46,46]) true)=λ(x y:Option (Int×aq×ai))=>if r.take 4=wh\/r=[]\/r=[46]\/r=[46,46] then x else y:=by
    funext x y;by_cases b1:r.take 4=wh
    .rw[bd<|.inl b1];simp[b1,aj,nt]
    .by_cases c:r=[]
     .rw[bd<|.inr<|.inl c];simp[c,aj,nt]
     .by_cases d:r=[46]
      .rw[bd<|.inr<|.inr<|.inl d];simp[d,aj,nt]
      .by_cases f:r=[46,46]
       .rw[bd<|.inr<|.inr<|.inr f];simp[f,aj,nt]
       .rw[bb<|by simp[b1,c,d,f]];simp[b1,c,d,f,aj,nt]
   rw[o];dsimp only;by_cases b:r.take 4=wh\/r=[]\/r=[46]\/r=[46,46]
   .rw[bd b,bd b]
   .rw[bb b,bb b,aa];dsimp only;have p:4<=n.length:=by rw[e];simp[wh]
    rw[ae,show inside 4 (len n) (len n)=true from aY (by decide) (by rw[bM];omega) (DY _),ae,show sub n 4 (minus (len n) 4)=n.drop 4 from pJ n 4 p,g]
 .rw[bb h];have s:n≠[46,119,104,46,46,119,104,46,46,111,112,113]:=λq=>h (by rw[q];rfl);have t:n≠[46,119,104,46]:=λq=>h (by rw[q];rfl);have u:n≠[46,119,104,46,46]:=λq=>h (by rw[q];rfl);have v:n≠[46,119,104,46,46,46]:=λq=>h (by rw[q];rfl);have w:¬n.take ([46,119,104,46,46,119,104,46]:aq).length=[46,119,104,46,46,119,104,46]:=λq=>h (by
   have:=congrArg (List.take 4) q;rw[Kr] at this;exact this)
  rw[cw s,af,aa];dsimp only;rw[dL w,cw t,cw u,cw v];rw[show aj (aj (nt<|aj (nt<|aj (nt false) false true) false true) false true)=λ(x y:Option (Int×aq×ai))=>y from rfl];dsimp only;rw[aa];dsimp only;rw[dL<|by exact h,af]
theorem Yu{a b:Bool}:aj a b false=(a&&b):=by cases a<;>rfl
theorem vD{s:aq}(h:tq s=true):(names s).all zI=true/\(names s).length<=8/\(aM<|names s).length<=96:=by
 unfold tq at h;simp only[dF,nI] at h;exact⟨h.1.1.1,h.1.2,h.2⟩
theorem LV(l:List aq)(a:List aq)(h:∀x∈a++l,47∉x/\x≠[]):l.foldl sd (aM a)=aM (a++l):=by
 induction l generalizing a with
 | nil=>simp
 | cons x r d =>
   have hx:=h x (by simp);have e:sd (aM a) x=aM (a++[x]):=by
    unfold sd;cases a with
    | nil=>rw[aM,bd (.inl rfl)];rfl
    | cons y q =>
      have b:aM (y::q)≠[]:=by
       have:=(h y<|by simp).2;cases q with
       | nil=>rw[aM];exact this
       | cons z q=>rw[aM];simp
      rw[bb<|by simp[b,hx.2]];have gen:∀(y:aq) (q:List aq),aM (y::q++[x])=aM (y::q)++47::x:=by
       intro y q;induction q generalizing y with
       | nil=>rfl
       | cons z q c =>
         rw[zP,zP,aM,<-zP,c z];rw[aM];simp
      exact(gen y q).symm
   rw[XN,e,d (a++[x]) (by intro z f;exact h z (by simpa using f))];simp
theorem Ia{l:List aq}(h:∀x∈l,47∉x/\x≠[])(c:l≠[]):bC (aM l)=(aM l.dropLast,l.getLast c):=by
 have d:cC (aM l)=l:=E2 l c λx g=>(h x g).1;rcases sb (aM l) with ⟨e,f⟩|⟨a,b,i,e,f⟩
 .rw[nf _ e] at d;rw[f];generalize aM l=p at d;subst d;rfl
 .rw[f];rw[i,As a b e] at d;subst d;rw[List.dropLast_concat,List.getLast_concat,tp]
set_option maxRecDepth 100000
abbrev cN:=(Sb×Sb×Sb×ai)
abbrev hU:=(Sb×(List Sb)×Sb×Sb×(List cN)×ai)
abbrev nC:=((List<|Sb×(List Sb)×Sb×Sb×Sb×(List cN)×ai)×(List hU)×(List<|Sb×Sb×(List Sb)×Sb×Int×Int×Bool×ai)×(List Sb)×(List<|Sb×Int×ai)×ai)
abbrev oL:=(Sb×(List Sb)×ai)
abbrev eo:=(Int×Int×ai)
abbrev WW:=(Sb×(List Sb)×Sb×Sb×Sb×(List cN)×ai)
abbrev ac2:=(Sb×Sb×(List Sb)×Sb×Int×Int×Bool×ai)
abbrev Du:=(Bool×Int×ai)
abbrev Dv:=(Nat×eo×ai×Sb×ai)
abbrev Dw:=(eo×ai×Sb×ai)
abbrev vE:=((ai×Int×ai)×(List Sb)×ai)
abbrev E3:=(Nat×eo×Sb×ai)
abbrev RA:=(Sb×Int×Int×ai)
abbrev E4:=(aq×((List aq)×(aq×(aq×((List<|aq×(aq×(aq×ai)))×ai)))))
abbrev E5:=(eo×Sb×ai)
abbrev Yv:=(Nat×Du×ai)
abbrev aiu:=((Int×ai)×ai×(List oL)×ai)
abbrev RB:=(Int×Sb×Int×Sb×ai)
abbrev J3:=(Nat×eo×ai×cN×ai)
abbrev aiv:=(Nat×eo×(List Sb)×ai)
abbrev aiw:=(Int×(List ac2)×(List hU)×(List WW)×ai)
abbrev aix:=((Nat×(ai×Int×ai)×(List Sb)×ai))
abbrev J4:=(eo×ai×cN×ai)
abbrev aiy:=(eo×(List Sb)×ai)
abbrev Yw:=(Du×ai)
abbrev aiz:=((Nat×(Int×ai)×ai×(List oL)×ai))
abbrev Yx:=(Nat×eo×ai×hU×ai)
abbrev E6:=(aq×(aq×(aq×ai)))
abbrev J5:=(ai×Int×ai)
def bc(l:List E6)(x:(Int×((List E6)×ai))):Option (List E6):=Dg l x.1 x.2.1
def bp(l:List E4)(x:(Int×(Int×ai))):Option (List E4):=TZ l x.1 x.2.1
def bY(l:List E6)(x:(Int×(Int×ai))):Option (List E6):=TZ l x.1 x.2.1
def bS(l:List E4)(x:(Int×((List E4)×ai))):Option (List E4):=Dg l x.1 x.2.1
def dm(x:cN×ai):Option (Sb×ai) :=
 some (x.1.1,())
def b8(x:(List cN)×ai):Option ((List cN)×ai) :=
 bif fits (len x.1) then some (x.1,()) else none
def BP(x:(List cN)×Sb×Sb×ai)(a:eo×ai×Sb×ai):Option (Dw⊕Dv) :=
 aj (aO a.1.2.1<|len x.1)
 (ab (idx x.1 a.1.2.1) λb=>ab (dm (b,())) λc=>aj (bz c.1 a.2.2.1)
 (some<|Sum.inr (1,(a.1.2.1,a.1.2.1,()),(),a.2.2.1,()))
 (some<|Sum.inl ((a.1.1,ax i64 a.1.2.1 1,()),(),a.2.2.1,())))
 (some<|Sum.inr (0,(a.1.1,a.1.2.1,()),(),a.2.2.1,()))
def BQ(x:(List cN)×Sb×Sb×ai)(a:eo×ai×Sb×ai):Option (Dw⊕Dv) :=
 aj (aO a.1.2.1<|len x.1)
 (ab (idx x.1 a.1.2.1) λb=>ab (dm (b,())) λc=>aj (bz c.1 a.2.2.1)
 (some<|Sum.inr (1,(a.1.2.1,a.1.2.1,()),(),a.2.2.1,()))
 (some<|Sum.inl ((a.1.1,ax i64 a.1.2.1 1,()),(),a.2.2.1,())))
 (some<|Sum.inr (0,(a.1.1,a.1.2.1,()),(),a.2.2.1,()))
def BR(b:(ai×ai)×(List cN)×ai)(a:eo×ai×cN×ai):Option (J4⊕J3) :=
 aj (aO a.1.2.1<|len b.2.1)
 (aj (within a.1.2.1<|len b.2.1)
 (ab (idx b.2.1 a.1.2.1) λd=>ab (dm (d,())) λe=>ab (dm (a.2.2.1,())) λc=>aj (nt<|jH e.1 c.1)
 (some<|Sum.inr (1,(a.1.2.1,a.1.2.1,()),(),a.2.2.1,()))
 (some<|Sum.inl ((a.1.1,ax i64 a.1.2.1 1,()),(),a.2.2.1,())))
 none)
 (some<|Sum.inr (0,(a.1.1,a.1.2.1,()),(),a.2.2.1,()))
def BS(b:(ai×ai)×(List cN)×ai)(a:eo×ai×cN×ai):Option (J4⊕J3) :=
 aj (aO a.1.2.1<|len b.2.1)
 (aj (within a.1.2.1<|len b.2.1)
 (ab (idx b.2.1 a.1.2.1) λd=>ab (dm (d,())) λe=>ab (dm (a.2.2.1,())) λc=>aj (nt<|jH e.1 c.1)
 (some<|Sum.inr (1,(a.1.2.1,a.1.2.1,()),(),a.2.2.1,()))
 (some<|Sum.inl ((a.1.1,ax i64 a.1.2.1 1,()),(),a.2.2.1,())))
 none)
 (some<|Sum.inr (0,(a.1.1,a.1.2.1,()),(),a.2.2.1,()))
def BT(x:(List cN)×Sb×Sb×ai)(a:eo×ai×Sb×ai):Option (Dw⊕Dv) :=
 aj (aO a.1.2.1<|len x.1)
 (ab (idx x.1 a.1.2.1) λb=>ab (dm (b,())) λc=>aj (bz c.1 a.2.2.1)
 (some<|Sum.inr (1,(a.1.2.1,a.1.2.1,()),(),a.2.2.1,()))
 (some<|Sum.inl ((a.1.1,ax i64 a.1.2.1 1,()),(),a.2.2.1,())))
 (some<|Sum.inr (0,(a.1.1,a.1.2.1,()),(),a.2.2.1,()))
def BU(b:(ai×ai)×(List cN)×ai)(a:eo×ai×cN×ai):Option (J4⊕J3) :=
 aj (aO a.1.2.1<|len b.2.1)
 (aj (within a.1.2.1<|len b.2.1)
 (ab (idx b.2.1 a.1.2.1) λd=>ab (dm (d,())) λe=>ab (dm (a.2.2.1,())) λc=>aj (nt<|jH e.1 c.1)
 (some<|Sum.inr (1,(a.1.2.1,a.1.2.1,()),(),a.2.2.1,()))
 (some<|Sum.inl ((a.1.1,ax i64 a.1.2.1 1,()),(),a.2.2.1,())))
 none)
 (some<|Sum.inr (0,(a.1.1,a.1.2.1,()),(),a.2.2.1,()))
def BV(b:(ai×ai)×(List cN)×ai)(a:eo×ai×cN×ai):Option (J4⊕J3) :=
 aj (aO a.1.2.1<|len b.2.1)
 (aj (within a.1.2.1<|len b.2.1)
 (ab (idx b.2.1 a.1.2.1) λd=>ab (dm (d,())) λe=>ab (dm (a.2.2.1,())) λc=>aj (nt<|jH e.1 c.1)
 (some<|Sum.inr (1,(a.1.2.1,a.1.2.1,()),(),a.2.2.1,()))
 (some<|Sum.inl ((a.1.1,ax i64 a.1.2.1 1,()),(),a.2.2.1,())))
 none)
 (some<|Sum.inr (0,(a.1.1,a.1.2.1,()),(),a.2.2.1,()))
def qI(x:(List cN)×Sb×Sb×ai):Option ((List cN)×Int×ai) :=
 ab (lg (x.2.1,())) (λh=>aj (aj (nt<|nt h.1)
 (aO 64<|len x.2.2.1)
 true)
 (some (([]:List cN),(1:Int),()))
 (ab (Loop (BP x) (((0:Int),(0:Int),()),(),x.2.1,())) λg=>aj (cR g.1 0)
 (aj (aj (aO (-1) 0)
 (ca 4<|len x.1)
 false)
 (some (([]:List cN),(5:Int),()))
 (ab (oY (x.2.2.1,())) λe=>ab (dm ((x.2.1,e.1,x.2.2.1,()),())) λf=>aj (fits<|len x.1)
 (ab (Loop (BQ x) (((0:Int),(0:Int),()),(),f.1,())) λd=>aj (cR d.1 0)
 (ab (aj (ca 0<|-1)
 (ab (bY x.1 ((-1:Int),ax i64 (-1) 1,())) λa=>some (((),()),a,()))
 (some (((),()),x.1,()))) λa=>ab (Loop (BR a) (((0:Int),(0:Int),()),(),(x.2.1,e.1,x.2.2.1,()),())) λb=>aj (cR b.1 0)
 (ab (bc a.2.1 (((aj (aO (-1) 0)
 ((len a.2.1,()),())
 (((-1:Int),()),())).1).1,([b.2.2.2.1]:List cN),())) λc=>some (c,(0:Int),()))
 (ab (bc a.2.1 (((aj (aO b.2.1.1 0)
 ((len a.2.1,()),())
 ((b.2.1.1,()),())).1).1,([b.2.2.2.1]:List cN),())) λc=>some (c,(0:Int),())))
 (ab (aj (ca 0 d.2.1.1)
 (ab (bY x.1 (d.2.1.1,ax i64 d.2.1.1 1,())) λa=>some (((),()),a,()))
 (some (((),()),x.1,()))) λa=>ab (Loop (BS a) (((0:Int),(0:Int),()),(),(x.2.1,e.1,x.2.2.1,()),())) λb=>aj (cR b.1 0)
 (ab (bc a.2.1 (((aj (aO (-1) 0)
 ((len a.2.1,()),())
 (((-1:Int),()),())).1).1,([b.2.2.2.1]:List cN),())) λc=>some (c,(0:Int),()))
 (ab (bc a.2.1 (((aj (aO b.2.1.1 0)
 ((len a.2.1,()),())
 ((b.2.1.1,()),())).1).1,([b.2.2.2.1]:List cN),())) λc=>some (c,(0:Int),()))))
 none))
 (aj (aj (aO g.2.1.1 0)
 (ca 4<|len x.1)
 false)
 (some (([]:List cN),(5:Int),()))
 (ab (oY (x.2.2.1,())) λe=>ab (dm ((x.2.1,e.1,x.2.2.1,()),())) λf=>aj (fits<|len x.1)
 (ab (Loop (BT x) (((0:Int),(0:Int),()),(),f.1,())) λd=>aj (cR d.1 0)
 (ab (aj (ca 0<|-1)
 (ab (bY x.1 ((-1:Int),ax i64 (-1) 1,())) λa=>some (((),()),a,()))
 (some (((),()),x.1,()))) λa=>ab (Loop (BU a) (((0:Int),(0:Int),()),(),(x.2.1,e.1,x.2.2.1,()),())) λb=>aj (cR b.1 0)
 (ab (bc a.2.1 (((aj (aO (-1) 0)
 ((len a.2.1,()),())
 (((-1:Int),()),())).1).1,([b.2.2.2.1]:List cN),())) λc=>some (c,(0:Int),()))
 (ab (bc a.2.1 (((aj (aO b.2.1.1 0)
 ((len a.2.1,()),())
 ((b.2.1.1,()),())).1).1,([b.2.2.2.1]:List cN),())) λc=>some (c,(0:Int),())))
 (ab (aj (ca 0 d.2.1.1)
 (ab (bY x.1 (d.2.1.1,ax i64 d.2.1.1 1,())) λa=>some (((),()),a,()))
 (some (((),()),x.1,()))) λa=>ab (Loop (BV a) (((0:Int),(0:Int),()),(),(x.2.1,e.1,x.2.2.1,()),())) λb=>aj (cR b.1 0)
 (ab (bc a.2.1 (((aj (aO (-1) 0)
 ((len a.2.1,()),())
 (((-1:Int),()),())).1).1,([b.2.2.2.1]:List cN),())) λc=>some (c,(0:Int),()))
 (ab (bc a.2.1 (((aj (aO b.2.1.1 0)
 ((len a.2.1,()),())
 ((b.2.1.1,()),())).1).1,([b.2.2.2.1]:List cN),())) λc=>some (c,(0:Int),()))))
 none))))
def BW(x:(List cN)×Sb×ai)(a:eo×ai×Sb×ai):Option (Dw⊕Dv) :=
 aj (aO a.1.2.1<|len x.1)
 (ab (idx x.1 a.1.2.1) λb=>ab (dm (b,())) λc=>aj (bz c.1 a.2.2.1)
 (some<|Sum.inr (1,(a.1.2.1,a.1.2.1,()),(),a.2.2.1,()))
 (some<|Sum.inl ((a.1.1,ax i64 a.1.2.1 1,()),(),a.2.2.1,())))
 (some<|Sum.inr (0,(a.1.1,a.1.2.1,()),(),a.2.2.1,()))
def qJ(x:(List cN)×Sb×ai):Option (Sb×Int×ai) :=
 ab (Loop (BW x) (((0:Int),(0:Int),()),(),x.2.1,())) (λa=>aj (cR a.1 0)
 (aj (aO (-1) 0)
 (some (([]:aq),(3:Int),()))
 (ab (idx x.1 (-1:Int)) λb=>some (b.2.2.1,(0:Int),())))
 (aj (aO a.2.1.1 0)
 (some (([]:aq),(3:Int),()))
 (ab (idx x.1 a.2.1.1) λb=>some (b.2.2.1,(0:Int),()))))
def j8(x:Int×ai):Option (RB×ai) :=
 some ((x.1,([]:aq),(0:Int),([]:aq),()),())
def ng(x:(List oL)×Sb×ai)(a:eo×Sb×ai):Option (E5⊕E3) :=
 aj (aO a.1.2.1<|len x.1)
 (ab (idx x.1 a.1.2.1) λb=>aj (bz b.1 a.2.1)
 (some<|Sum.inr (1,(a.1.2.1,a.1.2.1,()),a.2.1,()))
 (some<|Sum.inl ((a.1.1,ax i64 a.1.2.1 1,()),a.2.1,())))
 (some<|Sum.inr (0,(a.1.1,a.1.2.1,()),a.2.1,()))
def gR(x:(List oL)×Sb×ai)(a:eo×Sb×ai):Option (E5⊕E3) :=
 aj (aO a.1.2.1<|len x.1)
 (ab (idx x.1 a.1.2.1) λb=>ab (bI (b.2.1,a.2.1,())) λc=>aj c.1
 (some<|Sum.inr (1,(a.1.2.1,a.1.2.1,()),a.2.1,()))
 (some<|Sum.inl ((a.1.1,ax i64 a.1.2.1 1,()),a.2.1,())))
 (some<|Sum.inr (0,(a.1.1,a.1.2.1,()),a.2.1,()))
def nh(x:(List oL)×Sb×ai)(c:Nat×eo×Sb×ai)(a:J5×(List Sb)×ai):Option (vE⊕vE) :=
 cA (aj (aO a.1.2.1<|len x.1)
 (ab (idx x.1 a.1.2.1) λb=>ab (cT (b.1,c.2.2.1,())) λd=>ab (aj d.1
 (aj (fits<|plus (len a.2.1)<|len ([b.1]:List Sb))
 (some (((),()),app a.2.1 ([b.1]:List Sb),()))
 none)
 (some (((),()),a.2.1,()))) λe=>some (Sum.inl (((),ax i64 a.1.2.1 1,()),e.2.1,())))
 (some<|Sum.inr (0,((),a.1.2.1,()),a.2.1,())))
def GA(x:(List oL)×Sb×ai)(c:Nat×eo×Sb×ai)(a:J5×(List Sb)×ai):Option (vE⊕vE) :=
 cA (aj (aO a.1.2.1<|len x.1)
 (ab (idx x.1 a.1.2.1) λb=>ab (cT (b.1,c.2.2.1,())) λd=>ab (aj d.1
 (aj (fits<|plus (len a.2.1)<|len ([b.1]:List Sb))
 (some (((),()),app a.2.1 ([b.1]:List Sb),()))
 none)
 (some (((),()),a.2.1,()))) λe=>some (Sum.inl (((),ax i64 a.1.2.1 1,()),e.2.1,())))
 (some<|Sum.inr (0,((),a.1.2.1,()),a.2.1,())))
def GB(x:(List oL)×Sb×ai)(a:eo×Sb×ai):Option (E5⊕E3) :=
 aj (aO a.1.2.1<|len x.1)
 (ab (idx x.1 a.1.2.1) λb=>ab (bI (b.2.1,a.2.1,())) λc=>aj c.1
 (some<|Sum.inr (1,(a.1.2.1,a.1.2.1,()),a.2.1,()))
 (some<|Sum.inl ((a.1.1,ax i64 a.1.2.1 1,()),a.2.1,())))
 (some<|Sum.inr (0,(a.1.1,a.1.2.1,()),a.2.1,()))
def GC(x:(List oL)×Sb×ai)(c:Nat×eo×Sb×ai)(a:J5×(List Sb)×ai):Option (vE⊕vE) :=
 cA (aj (aO a.1.2.1<|len x.1)
 (ab (idx x.1 a.1.2.1) λb=>ab (cT (b.1,c.2.2.1,())) λd=>ab (aj d.1
 (aj (fits<|plus (len a.2.1)<|len ([b.1]:List Sb))
 (some (((),()),app a.2.1 ([b.1]:List Sb),()))
 none)
 (some (((),()),a.2.1,()))) λe=>some (Sum.inl (((),ax i64 a.1.2.1 1,()),e.2.1,())))
 (some<|Sum.inr (0,((),a.1.2.1,()),a.2.1,())))
def GD(x:(List oL)×Sb×ai)(c:Nat×eo×Sb×ai)(a:J5×(List Sb)×ai):Option (vE⊕vE) :=
 cA (aj (aO a.1.2.1<|len x.1)
 (ab (idx x.1 a.1.2.1) λb=>ab (cT (b.1,c.2.2.1,())) λd=>ab (aj d.1
 (aj (fits<|plus (len a.2.1)<|len ([b.1]:List Sb))
 (some (((),()),app a.2.1 ([b.1]:List Sb),()))
 none)
 (some (((),()),a.2.1,()))) λe=>some (Sum.inl (((),ax i64 a.1.2.1 1,()),e.2.1,())))
 (some<|Sum.inr (0,((),a.1.2.1,()),a.2.1,())))
def gI(x:(List oL)×Sb×ai):Option (Sb×Int×ai) :=
 ab (Loop (ng x) (((0:Int),(0:Int),()),x.2.1,())) (λd=>aj (cR d.1 0)
 (aj (ca 0<|-1)
 (some (x.2.1,(0:Int),()))
 (ab (Loop (gR x) (((0:Int),(0:Int),()),x.2.1,())) λb=>aj (cR b.1 0)
 (aj (ca 0<|-1)
 (ab (idx x.1 (-1:Int)) λa=>some (a.1,(0:Int),()))
 (ab (Loop (nh x b) (((),(0:Int),()),([]:List Sb),())) λa=>aj (aj (nt<|aj (nt<|bz b.2.2.1 ([]:aq))
 (ca 6<|len b.2.2.1)
 true)
 (aL (len a.2.1) 0)
 true)
 (some (([]:aq),(3:Int),()))
 (aj (aO 1<|len a.2.1)
 (some (([]:aq),(9:Int),()))
 (aj (within 0<|len a.2.1)
 (ab (idx a.2.1 (0:Int)) λc=>some (c,(0:Int),()))
 none))))
 (aj (ca 0 b.2.1.1)
 (ab (idx x.1 b.2.1.1) λa=>some (a.1,(0:Int),()))
 (ab (Loop (GA x b) (((),(0:Int),()),([]:List Sb),())) λa=>aj (aj (nt<|aj (nt<|bz b.2.2.1 ([]:aq))
 (ca 6<|len b.2.2.1)
 true)
 (aL (len a.2.1) 0)
 true)
 (some (([]:aq),(3:Int),()))
 (aj (aO 1<|len a.2.1)
 (some (([]:aq),(9:Int),()))
 (aj (within 0<|len a.2.1)
 (ab (idx a.2.1 (0:Int)) λc=>some (c,(0:Int),()))
 none))))))
 (aj (ca 0 d.2.1.1)
 (some (x.2.1,(0:Int),()))
 (ab (Loop (GB x) (((0:Int),(0:Int),()),x.2.1,())) λb=>aj (cR b.1 0)
 (aj (ca 0<|-1)
 (ab (idx x.1 (-1:Int)) λa=>some (a.1,(0:Int),()))
 (ab (Loop (GC x b) (((),(0:Int),()),([]:List Sb),())) λa=>aj (aj (nt<|aj (nt<|bz b.2.2.1 ([]:aq))
 (ca 6<|len b.2.2.1)
 true)
 (aL (len a.2.1) 0)
 true)
 (some (([]:aq),(3:Int),()))
 (aj (aO 1<|len a.2.1)
 (some (([]:aq),(9:Int),()))
 (aj (within 0<|len a.2.1)
 (ab (idx a.2.1 (0:Int)) λc=>some (c,(0:Int),()))
 none))))
 (aj (ca 0 b.2.1.1)
 (ab (idx x.1 b.2.1.1) λa=>some (a.1,(0:Int),()))
 (ab (Loop (GD x b) (((),(0:Int),()),([]:List Sb),())) λa=>aj (aj (nt<|aj (nt<|bz b.2.2.1 ([]:aq))
 (ca 6<|len b.2.2.1)
 true)
 (aL (len a.2.1) 0)
 true)
 (some (([]:aq),(3:Int),()))
 (aj (aO 1<|len a.2.1)
 (some (([]:aq),(9:Int),()))
 (aj (within 0<|len a.2.1)
 (ab (idx a.2.1 (0:Int)) λc=>some (c,(0:Int),()))
 none)))))))
def j9(x:nC×ai):Option ((List oL)×ai) :=
 ab (oI ((3:Int),((0:Int),x.1.2.2.1,([]:List hU),([]:List WW),()),())) (λa=>some (a.1,()))
def dU(x:nC×Sb×ai):Option (Sb×Int×ai) :=
 ab (j9 (x.1,())) (λb=>ab (gI (b.1,x.2.1,())) λa=>some (a.1,a.2.1,()))
def pP(x:nC×ai):Option ((List oL)×ai) :=
 ab (oI ((2:Int),((0:Int),([]:List ac2),x.1.2.1,([]:List WW),()),())) (λa=>some (a.1,()))
def vF(x:Int×ai):Option (Sb×ai) :=
 aj (aO 16 0)
 none
 (aj (aO 8 0)
 none
 (ab (mX (aX ([kq IntKind.u8<|mQ i64 x.1 16,kq IntKind.u8 (mQ i64 x.1 8),kq IntKind.u8 x.1]:List (Int)),())) λa=>some (a.1,())))
def fT(x:(List oL)×Int×ai)(a:eo×Sb×ai):Option (E5⊕E3) :=
 aj (aO a.1.2.1<|len x.1)
 (ab (idx x.1 a.1.2.1) λb=>aj (bz b.1 a.2.1)
 (some<|Sum.inr (1,(a.1.2.1,a.1.2.1,()),a.2.1,()))
 (some<|Sum.inl ((a.1.1,ax i64 a.1.2.1 1,()),a.2.1,())))
 (some<|Sum.inr (0,(a.1.1,a.1.2.1,()),a.2.1,()))
def jg(x:(List oL)×Int×ai)(a:RA×ai):Option ((RA×ai)⊕(Nat×RA×ai)) :=
 aj (aO a.1.2.2.1<|ax i64 (len x.1) 1)
 (aj (aL 16777216 0)
 none
 (ab (vF (iA (ax i64 (jQ i64 x.2.1 16777215) a.1.2.2.1) 16777216,())) λb=>ab (Loop (fT x) (((0:Int),(0:Int),()),b.1,())) λc=>aj (cR c.1 0)
 (aj (nt<|ca 0<|-1)
 (some<|Sum.inr (1,(b.1,(0:Int),a.1.2.2.1,()),()))
 (some<|Sum.inl ((a.1.1,a.1.2.1,ax i64 a.1.2.2.1 1,()),())))
 (aj (nt<|ca 0 c.2.1.1)
 (some<|Sum.inr (1,(b.1,(0:Int),a.1.2.2.1,()),()))
 (some<|Sum.inl ((a.1.1,a.1.2.1,ax i64 a.1.2.2.1 1,()),())))))
 (some<|Sum.inr (0,(a.1.1,a.1.2.1,a.1.2.2.1,()),()))
def hW(x:(List oL)×Int×ai):Option (Sb×Int×ai) :=
 aj (ca 32<|len x.1)
 (some (([]:aq),(5:Int),()))
 (ab (Loop (jg x) ((([]:aq),(0:Int),(0:Int),()),())) λa=>aj (cR a.1 0)
 (some (([]:aq),(5:Int),()))
 (some (a.2.1.1,a.2.1.2.1,())))
def jh(x:hU×ai):Option (Sb×ai) :=
 some (x.1.1,())
def bJ(x:(List hU)×ai):Option ((List hU)×ai) :=
 bif fits (len x.1) then some (x.1,()) else none
def I5(x:nC×hU×ai)(a:eo×ai×Sb×ai):Option (Dw⊕Dv) :=
 aj (aO a.1.2.1<|len x.1.2.1)
 (ab (idx x.1.2.1 a.1.2.1) λb=>ab (jh (b,())) λc=>aj (bz c.1 a.2.2.1)
 (some<|Sum.inr (1,(a.1.2.1,a.1.2.1,()),(),a.2.2.1,()))
 (some<|Sum.inl ((a.1.1,ax i64 a.1.2.1 1,()),(),a.2.2.1,())))
 (some<|Sum.inr (0,(a.1.1,a.1.2.1,()),(),a.2.2.1,()))
def I6(b:(ai×ai)×(List hU)×ai)(a:eo×ai×hU×ai):Option ((eo×ai×hU×ai)⊕Yx) :=
 aj (aO a.1.2.1<|len b.2.1)
 (aj (within a.1.2.1<|len b.2.1)
 (ab (idx b.2.1 a.1.2.1) λc=>ab (jh (c,())) λd=>ab (jh (a.2.2.1,())) λe=>aj (nt<|jH d.1 e.1)
 (some<|Sum.inr (1,(a.1.2.1,a.1.2.1,()),(),a.2.2.1,()))
 (some<|Sum.inl ((a.1.1,ax i64 a.1.2.1 1,()),(),a.2.2.1,())))
 none)
 (some<|Sum.inr (0,(a.1.1,a.1.2.1,()),(),a.2.2.1,()))
def I7(b:(ai×ai)×(List hU)×ai)(a:eo×ai×hU×ai):Option ((eo×ai×hU×ai)⊕Yx) :=
 aj (aO a.1.2.1<|len b.2.1)
 (aj (within a.1.2.1<|len b.2.1)
 (ab (idx b.2.1 a.1.2.1) λc=>ab (jh (c,())) λd=>ab (jh (a.2.2.1,())) λe=>aj (nt<|jH d.1 e.1)
 (some<|Sum.inr (1,(a.1.2.1,a.1.2.1,()),(),a.2.2.1,()))
 (some<|Sum.inl ((a.1.1,ax i64 a.1.2.1 1,()),(),a.2.2.1,())))
 none)
 (some<|Sum.inr (0,(a.1.1,a.1.2.1,()),(),a.2.2.1,()))
def tu(x:nC×hU×ai):Option (nC×ai) :=
 ab (aP (x.2.1.2.1,())) (λe=>ab (b8 (x.2.1.2.2.2.2.1,())) λf=>ab (jh ((x.2.1.1,e.1,x.2.1.2.2.1,x.2.1.2.2.2.1,f.1,x.2.1.2.2.2.2.2),())) λg=>aj (fits<|len x.1.2.1)
 (ab (Loop (I5 x) (((0:Int),(0:Int),()),(),g.1,())) λd=>aj (cR d.1 0)
 (ab (aj (ca 0<|-1)
 (ab (bp x.1.2.1 ((-1:Int),ax i64 (-1) 1,())) λa=>some (((),()),a,()))
 (some (((),()),x.1.2.1,()))) λa=>ab (Loop (I6 a) (((0:Int),(0:Int),()),(),(x.2.1.1,e.1,x.2.1.2.2.1,x.2.1.2.2.2.1,f.1,x.2.1.2.2.2.2.2),())) λb=>aj (cR b.1 0)
 (ab (bS a.2.1 (((aj (aO (-1) 0)
 ((len a.2.1,()),())
 (((-1:Int),()),())).1).1,([b.2.2.2.1]:List hU),())) λc=>some ((x.1.1,c,x.1.2.2),()))
 (ab (bS a.2.1 (((aj (aO b.2.1.1 0)
 ((len a.2.1,()),())
 ((b.2.1.1,()),())).1).1,([b.2.2.2.1]:List hU),())) λc=>some ((x.1.1,c,x.1.2.2),())))
 (ab (aj (ca 0 d.2.1.1)
 (ab (bp x.1.2.1 (d.2.1.1,ax i64 d.2.1.1 1,())) λa=>some (((),()),a,()))
 (some (((),()),x.1.2.1,()))) λa=>ab (Loop (I7 a) (((0:Int),(0:Int),()),(),(x.2.1.1,e.1,x.2.1.2.2.1,x.2.1.2.2.2.1,f.1,x.2.1.2.2.2.2.2),())) λb=>aj (cR b.1 0)
 (ab (bS a.2.1 (((aj (aO (-1) 0)
 ((len a.2.1,()),())
 (((-1:Int),()),())).1).1,([b.2.2.2.1]:List hU),())) λc=>some ((x.1.1,c,x.1.2.2),()))
 (ab (bS a.2.1 (((aj (aO b.2.1.1 0)
 ((len a.2.1,()),())
 ((b.2.1.1,()),())).1).1,([b.2.2.2.1]:List hU),())) λc=>some ((x.1.1,c,x.1.2.2),()))))
 none)
def zm(x:nC×Sb×(List Sb)×Sb×Int×ai):Option (nC×RB×ai) :=
 ab (fy (x.2.2.1,())) (λe=>aj (aj (nt<|nt<|aL e.1 0)
 (aO 64<|len x.2.2.2.1)
 true)
 (ab (j8 ((1:Int),())) λa=>some (x.1,a.1,()))
 (ab (aj (nt<|bz x.2.1 ([]:aq))
 (ab (dU (x.1,x.2.1,())) λa=>some ((a.2.1,()),(([]:aq),x.2.2.1,a.1,x.2.2.2.1,([]:List cN),()),()))
 (some (((0:Int),()),(([]:aq),x.2.2.1,([]:aq),x.2.2.2.1,([]:List cN),()),()))) λa=>ab (aj (aL a.1.1 0)
 (ab (pP (x.1,())) λd=>ab (je (d.1,([]:aq),x.2.2.1,())) λb=>some ((b.1,()),()))
 (some ((a.1.1,()),()))) λd=>ab (aj (aL d.1.1 0)
 (ab (pP (x.1,())) λb=>ab (hW (b.1,x.2.2.2.2.1,())) λc=>some ((c.2.1,()),(c.1,a.2.1.2),()))
 (some ((d.1.1,()),a.2.1,()))) λb=>aj (nt<|aL b.1.1 0)
 (ab (j8 (b.1.1,())) λc=>some (x.1,c.1,()))
 (ab (tu (x.1,b.2.1,())) λc=>some (c.1,((0:Int),b.2.1.1,(0:Int),([]:aq),()),()))))
def rv(x:nC×Sb×ai):Option (Sb×Int×ai) :=
 ab (pP (x.1,())) (λb=>ab (gI (b.1,x.2.1,())) λa=>some (a.1,a.2.1,()))
def Dx(x:nC×Sb×ai)(a:eo×Sb×ai):Option (E5⊕E3) :=
 aj (aO a.1.2.1<|len x.1.1)
 (ab (idx x.1.1 a.1.2.1) λb=>aj (bz b.2.2.1 a.2.1)
 (some<|Sum.inr (1,(a.1.2.1,a.1.2.1,()),a.2.1,()))
 (some<|Sum.inl ((a.1.1,ax i64 a.1.2.1 1,()),a.2.1,())))
 (some<|Sum.inr (0,(a.1.1,a.1.2.1,()),a.2.1,()))
def Dy(x:nC×Sb×ai)(a:eo×ai×Sb×ai):Option (Dw⊕Dv) :=
 aj (aO a.1.2.1<|len x.1.2.1)
 (ab (idx x.1.2.1 a.1.2.1) λb=>ab (jh (b,())) λc=>aj (bz c.1 a.2.2.1)
 (some<|Sum.inr (1,(a.1.2.1,a.1.2.1,()),(),a.2.2.1,()))
 (some<|Sum.inl ((a.1.1,ax i64 a.1.2.1 1,()),(),a.2.2.1,())))
 (some<|Sum.inr (0,(a.1.1,a.1.2.1,()),(),a.2.2.1,()))
def Dz(x:nC×Sb×ai)(a:eo×ai×Sb×ai):Option (Dw⊕Dv) :=
 aj (aO a.1.2.1<|len x.1.2.1)
 (ab (idx x.1.2.1 a.1.2.1) λb=>ab (jh (b,())) λc=>aj (bz c.1 a.2.2.1)
 (some<|Sum.inr (1,(a.1.2.1,a.1.2.1,()),(),a.2.2.1,()))
 (some<|Sum.inl ((a.1.1,ax i64 a.1.2.1 1,()),(),a.2.2.1,())))
 (some<|Sum.inr (0,(a.1.1,a.1.2.1,()),(),a.2.2.1,()))
def zn(x:nC×Sb×ai):Option (nC×RB×ai) :=
 ab (rv (x.1,x.2.1,())) (λd=>aj (nt<|aL d.2.1 0)
 (ab (j8 (d.2.1,())) λc=>some (x.1,c.1,()))
 (ab (Loop (Dx x) (((0:Int),(0:Int),()),d.1,())) λc=>aj (cR c.1 0)
 (aj (ca 0<|-1)
 (ab (j8 ((7:Int),())) λb=>some (x.1,b.1,()))
 (aj (fits<|len x.1.2.1)
 (ab (Loop (Dy x) (((0:Int),(0:Int),()),(),c.2.2.1,())) λb=>aj (cR b.1 0)
 (ab (aj (ca 0<|-1)
 (ab (bp x.1.2.1 ((-1:Int),ax i64 (-1) 1,())) λa=>some (((),()),a,()))
 (some (((),()),x.1.2.1,()))) λa=>some ((x.1.1,a.2.1,x.1.2.2),((0:Int),c.2.2.1,(0:Int),([]:aq),()),()))
 (ab (aj (ca 0 b.2.1.1)
 (ab (bp x.1.2.1 (b.2.1.1,ax i64 b.2.1.1 1,())) λa=>some (((),()),a,()))
 (some (((),()),x.1.2.1,()))) λa=>some ((x.1.1,a.2.1,x.1.2.2),((0:Int),c.2.2.1,(0:Int),([]:aq),()),())))
 none))
 (aj (ca 0 c.2.1.1)
 (ab (j8 ((7:Int),())) λb=>some (x.1,b.1,()))
 (aj (fits<|len x.1.2.1)
 (ab (Loop (Dz x) (((0:Int),(0:Int),()),(),c.2.2.1,())) λb=>aj (cR b.1 0)
 (ab (aj (ca 0<|-1)
 (ab (bp x.1.2.1 ((-1:Int),ax i64 (-1) 1,())) λa=>some (((),()),a,()))
 (some (((),()),x.1.2.1,()))) λa=>some ((x.1.1,a.2.1,x.1.2.2),((0:Int),c.2.2.1,(0:Int),([]:aq),()),()))
 (ab (aj (ca 0 b.2.1.1)
 (ab (bp x.1.2.1 (b.2.1.1,ax i64 b.2.1.1 1,())) λa=>some (((),()),a,()))
 (some (((),()),x.1.2.1,()))) λa=>some ((x.1.1,a.2.1,x.1.2.2),((0:Int),c.2.2.1,(0:Int),([]:aq),()),())))
 none))))
def I8(x:nC×Sb×ai)(a:Du×hU×ai):Option ((Du×hU×ai)⊕(Nat×Du×hU×ai)) :=
 aj (aO a.1.2.1<|len x.1.2.1)
 (ab (idx x.1.2.1 a.1.2.1) λb=>aj (bz b.1 x.2.1)
 (ab (aP (b.2.1,())) λc=>ab (b8 (b.2.2.2.2.1,())) λd=>some (Sum.inr (1,(true,a.1.2.1,()),(b.1,c.1,b.2.2.1,b.2.2.2.1,d.1,b.2.2.2.2.2),())))
 (some<|Sum.inl ((a.1.1,ax i64 a.1.2.1 1,()),a.2.1,())))
 (some<|Sum.inr (0,(a.1.1,a.1.2.1,()),a.2.1,()))
def pQ(x:nC×Sb×ai):Option (hU×Bool×ai) :=
 ab (Loop (I8 x) ((false,(0:Int),()),(([]:aq),([]:List Sb),([]:aq),([]:aq),([]:List cN),()),())) (λa=>aj (cR a.1 0)
 (some ((([]:aq),([]:List Sb),([]:aq),([]:aq),([]:List cN),()),false,()))
 (some (a.2.2.1,a.2.1.1,())))
def ji(x:(List cN)×(List cN)×ai)(a:Du×ai):Option (Yw⊕Yv) :=
 aj (aj (aO a.1.2.1<|len x.1)
 (aO a.1.2.1<|len x.2.1)
 false)
 (ab (idx x.1 a.1.2.1) λb=>ab (idx x.2.1 a.1.2.1) λc=>aj (nt<|an (bz b.1 c.1)<|an (bz b.2.1 c.2.1)<|an (bz b.2.2.1 c.2.2.1) true)
 (some<|Sum.inr (1,(false,a.1.2.1,()),()))
 (some<|Sum.inl ((a.1.1,ax i64 a.1.2.1 1,()),())))
 (some<|Sum.inr (0,(a.1.1,a.1.2.1,()),()))
def fU(x:(List cN)×(List cN)×ai):Option (Bool×ai) :=
 aj (nt<|aL (len x.1)<|len x.2.1)
 (some (false,()))
 (ab (Loop (ji x) ((false,(0:Int),()),())) λa=>aj (cR a.1 0)
 (some (true,()))
 (some (a.2.1.1,())))
def GF(x:(List cN)×ai)(a:Du×ai):Option (Yw⊕Yv) :=
 aj (aO a.1.2.1<|len x.1)
 (ab (idx x.1 a.1.2.1) λb=>ab (uH (b.1,())) λc=>aj (nt c.1)
 (some<|Sum.inr (1,(false,a.1.2.1,()),()))
 (ab (idx x.1 a.1.2.1) λd=>aj (aO 64<|len d.2.2.1)
 (some<|Sum.inr (1,(false,a.1.2.1,()),()))
 (ab (idx x.1 a.1.2.1) λe=>ab (idx x.1 a.1.2.1) λf=>ab (qG (f.2.2.1,())) λg=>aj (nt<|bz e.2.1 g.1)
 (some<|Sum.inr (1,(false,a.1.2.1,()),()))
 (aj (aO 0 a.1.2.1)
 (ab (idx x.1<|cE i64 a.1.2.1 1) λh=>ab (idx x.1 a.1.2.1) λi=>aj (nt<|jH h.1 i.1)
 (some<|Sum.inr (1,(false,a.1.2.1,()),()))
 (some<|Sum.inl ((a.1.1,ax i64 a.1.2.1 1,()),())))
 (some<|Sum.inl ((a.1.1,ax i64 a.1.2.1 1,()),()))))))
 (some<|Sum.inr (0,(a.1.1,a.1.2.1,()),()))
def wy(x:(List cN)×ai):Option (Bool×ai) :=
 ab (Loop (GF x) ((false,(0:Int),()),())) (λa=>aj (cR a.1 0)
 (some (ca (len x.1) 4,()))
 (some (a.2.1.1,())))
end Go.Ge
namespace Go.Ge
variable [Lp]
def GG(a:Tx)(x:Nm):List Tx:=if x.1.take a.length=a then [x.1] else []
def Av(l:List Nm)(a:Tx):List Tx:=l.flatMap (GG a)
def tZ(b:Tx)(f:List Tx):Tx×Int×ai:=if b=[]\/6<=b.length then([],3,()) else match f with|[]=>([],3,())|[a]=>(a,0,())|_=>([],9,())
def lh(l:List Nm)(a:Tx):Tx×Int×ai:=if ∃x∈l,x.1=a then(a,0,()) else
 match l.find? (λx=>decide (a∈x.2.1)) with|some x=>(x.1,0,())|none=>tZ a (Av l a)
theorem RC(c:Tx)(f:List Tx):aj (aj (nt<|aj (nt<|bz c ([]:Tx)) (ca (6:Int)<|@len UInt8 c) true) (aL (@len Tx f) (0:Int)) true) (some (([]:Tx),(3:Int),()))
  (aj (aO (1:Int)<|@len Tx f) (some (([]:Tx),(9:Int),()))<|aj (within (0:Int)<|@len Tx f) (ab (@idx Tx f (0:Int)) λ(g:Tx)=>some (g,(0:Int),())) none)=some (tZ c f):=by
 have i:bz c ([]:Tx)=decide (c=[]):=rfl;have j:ca (6:Int) (@len UInt8 c)=decide (6<=c.length):=by unfold ca len;apply ky.2;omega
 unfold tZ;rw[i,j];by_cases d:c=[]
 .rw[bd<|.inl d,cd d];rfl
 .rw[dL d];by_cases e:6<=c.length
  .rw[bd<|.inr e,cd e];rfl
  .rw[bb<|by rintro(h|h);exact d h;exact e h,dL e]
   match f with
   | []=>rfl
   | [a]=>rfl
   | a::b::r =>
     have:aO (1:Int) (@len Tx (a::b::r))=true:=aU (by simp only[len,dW];omega);have k:aL (@len Tx (a::b::r)) (0:Int)=false:=aF (by simp only[len,dW];omega);rw[k,this];rfl
theorem WX(l:List Nm)(a:Tx)(j:l.length<=1000000)(q:Nat×(Int×Int×ai)×Tx×ai)(c:q.2.2.1=a) :
  Loop (nh (l,a,()) q) (((),(0:Int),()),([]:List Tx),())=some (((),(l.length:Int),()),Av l a,()):=by
 refine nP l (λb i=>(((),i,()),b,())) (GG a) _ (by omega) (λi x d e f=>?_) ?_
 .have k:((l.take i).flatMap<|GG a).length<=l.length:=by
   have:=eM (g:=GG a) (λx=>by unfold GG;split<;>simp) l i;omega
  unfold nh;dsimp only;rw[au e,ae,az d,aa,c,WV,aa,f];unfold GG;by_cases h:x.1.take a.length=a
  .rw[cd h,bd h,ae];have:fits (plus (@len Tx<|(l.take i).flatMap<|GG a)<|@len Tx ([x.1]:List Tx))=true:=b7 (by show _+1<=_;omega);unfold GG at this;rw[this];rfl
  .rw[dL h,bb h];rw[wX];rfl
 .unfold nh;dsimp only;rw[aB,af];rfl
theorem I9(l:List Nm)(a:Tx)(d:Small l)(e:l.length<=1000000):gI (l,a,())=some (lh l a):=by
 unfold gI;dsimp only;have mid:∀{f1:(Int×Int×ai)×Tx×ai->Option (((Int×Int×ai)×Tx×ai)⊕(Nat×(Int×Int×ai)×Tx×ai))},f1=gR (l,a,()) ->
   (∃(i:Nat) (x:Nm),l[i]?=some x/\decide (a∈x.2.1)=true/\(∀(j:Nat) (y:Nm),j<i->l[j]?=some y->decide (a∈y.2.1)=false)/\Loop f1 (((0:Int),(0:Int),()),a,())=some (1,((i:Int),(i:Int),()),a,())) \/
   ((∀(i:Nat) (x:Nm),l[i]?=some x->decide (a∈x.2.1)=false)/\Loop f1 (((0:Int),(0:Int),()),a,())=some (0,((0:Int),len l,()),a,())):=by
  intro f1 q;subst q;exact qF (f:=gR (l,a,())) l (λi=>(((0:Int),i,()),a,())) (λ_ x=>decide (a∈x.2.1)) (λi x=>(1,((i:Int),(i:Int),()),a,())) (0,((0:Int),len l,()),a,()) d.1 (λi x b c g=>by
   unfold gR;dsimp only;rw[au c,ae,az b,aa,uI x.2.1 a (d.2 x<|iy b),aa,gX,g];by_cases h:a∈x.2.1<;>simp[h]) (by unfold gR;dsimp only;rw[aB,af];rfl)
 rcases qF (f:=ng (l,a,())) l (λi=>(((0:Int),i,()),a,())) (λ_ x=>decide (x.1=a)) (λi x=>(1,((i:Int),(i:Int),()),a,())) (0,((0:Int),len l,()),a,()) d.1 (λi x b c g=>by
  unfold ng;dsimp only;rw[au c,ae,az b,aa,gX,g];by_cases h:x.1=a<;>simp[bz,h]) (by unfold ng;dsimp only;rw[aB,af];rfl) with ⟨i,x,b,k,p,h⟩|⟨m,h⟩
 .rw[h,aa];dsimp only;rw[show cR 1 0=false from rfl,af,cr (by omega),ae];unfold lh;rw[bd ⟨x,iy b,kx k⟩]
 .rw[h,aa];dsimp only;rw[show cR 0 0=true from rfl,ae,show ca (0:Int) (-1)=false from rfl,af];have n:¬∃x∈l,x.1=a:=by
   rintro⟨x,b,r⟩;obtain⟨i,c⟩:=bR.1 b;have:=m i x c;simp[r] at this
  unfold lh;rw[bb n];rcases mid (f1:=gR (l,a,())) rfl with ⟨i,x,b,k,p,h⟩|⟨m,h⟩
  .rw[h,aa];dsimp only;rw[show cR 1 0=false from rfl,af,cr (by omega),ae,az b,aa];have:l.find? (λx=>decide (a∈x.2.1))=some x:=by
    rw[aaV];refine⟨k,i,aG b,?_,λj o=>?_⟩
    .have:=jE (aG b);rw[b] at this;exact(aE this).symm
    .have s:=aG b;have:=p j l[j] o (jE<|by omega);simpa using this
   rw[this]
  .rw[h,aa];dsimp only;rw[show cR 0 0=true from rfl,ae,af,WX l a e _ rfl,aa];have:l.find? (λx=>decide (a∈x.2.1))=none:=by
    rw[SG];intro x b;obtain⟨i,c⟩:=bR.1 b;have:=m i x c;simpa using this
   rw[this];exact RC a (Av l a)
set_option maxRecDepth 100000
abbrev cf:=(Sb×Int×Int×Sb×Sb×ai)
abbrev Yy:=((Int×Int×ai×ai)×ai×Sb×(List cf)×ai)
abbrev ac3:=(aq×(Int×(Int×(aq×(aq×ai)))))
abbrev zo:=(Int×Int×ai)
def aZ(l:List ac3)(x:(Int×((List ac3)×ai))):Option (List ac3):=Dg l x.1 x.2.1
def Co(x:Sb×ai):Option (Bool×ai) :=
 ab (wu (x.1,())) (λa=>ab (jx (x.1,())) λb=>ab (yq (b.2.1,())) λc=>some (aj (aj (aj (aj (aL a.2.1 0)
 (bz a.1 x.1)
 false)
 (nt<|bz x.1 ([]:aq))
 false)
 (aj (ca (len x.1) 92)
 (ca (len b.2.1) 28)
 false)
 false)
 (aL c.1 0)
 false,()))
def GH(x:cf×ai):Option (Bool×ai) :=
 ab (Co (x.1.1,())) (λb=>aj (aj (nt<|aj (nt<|nt b.1)
 (aO x.1.2.2.1 0)
 true)
 (aO 4095 x.1.2.2.1)
 true)
 (some (false,()))
 (aj (aL x.1.2.1 1)
 (some (aj (bz x.1.2.2.2.2.1 ([]:aq))
 (ca (len x.1.2.2.2.1) 8192)
 false,()))
 (aj (aL x.1.2.1 2)
 (some (aj (bz x.1.2.2.2.2.1 ([]:aq))
 (bz x.1.2.2.2.1 ([]:aq))
 false,()))
 (aj (aL x.1.2.1 3)
 (ab (aj (aj (aj (bz x.1.2.2.2.1 ([]:aq))
 (nt<|bz x.1.2.2.2.2.1 ([]:aq))
 false)
 (ca (len x.1.2.2.2.2.1) 100)
 false)
 (ab (fg (x.1.2.2.2.2.1,(0:Int),())) λa=>some (aO a.1 0))
 (some false)) λa=>some (a,()))
 (some (false,()))))))
def sC(x:cf×Sb×ai):Option (Int×ai) :=
 ab (oi (x.1.1,x.2.1,())) (λa=>some (a.1,()))
def Ja(x:(List cf)×Sb×ai)(a:zo×ai):Option ((zo×ai)⊕(zo×ai)) :=
 cA (aj (aO a.1.1 a.1.2.1)
 (aj (aO 1 0)
 none
 (ab (idx x.1<|kq i64<|mQ IntKind.u64 (kq IntKind.u64<|ax i64 a.1.1 a.1.2.1) 1) λc=>ab (sC (c,x.2.1,())) λb=>some (Sum.inl ((((aj (aO b.1 0)
 ((ax i64 (kq i64<|mQ IntKind.u64 (kq IntKind.u64<|ax i64 a.1.1 a.1.2.1) 1) 1,a.1.2.1,()),())
 ((a.1.1,kq i64<|mQ IntKind.u64 (kq IntKind.u64<|ax i64 a.1.1 a.1.2.1) 1,()),())).1).1,(((aj (aO b.1 0)
 ((ax i64 (kq i64<|mQ IntKind.u64 (kq IntKind.u64<|ax i64 a.1.1 a.1.2.1) 1) 1,a.1.2.1,()),())
 ((a.1.1,kq i64<|mQ IntKind.u64 (kq IntKind.u64<|ax i64 a.1.1 a.1.2.1) 1,()),())).1).2).1,()),()))))
 (some<|Sum.inr (0,(a.1.1,a.1.2.1,()),())))
def gw(x:(List cf)×Sb×ai):Option (Int×Bool×ai) :=
 ab (Loop (Ja x) (((0:Int),len x.1,()),())) (λa=>aj (aO a.1.1<|len x.1)
 (ab (idx x.1 a.1.1) λb=>ab (sC (b,x.2.1,())) λc=>some (a.1.1,aL c.1 0,()))
 (some (a.1.1,false,())))
def yy(x:(List cf)×Sb×ai):Option (Int×ai) :=
 aj (bz x.2.1 ([]:aq))
 (some ((0:Int),()))
 (ab (gw (x.1,x.2.1,())) λa=>aj (nt a.2.1)
 (some ((3:Int),()))
 (ab (idx x.1 a.1) λb=>aj (nt<|aL b.2.1 2)
 (some ((12:Int),()))
 (some ((0:Int),()))))
def Jb(x:(List cf)×ai)(a:zo×ai):Option ((zo×ai)⊕(Nat×zo×ai)) :=
 aj (aO a.1.2.1<|len x.1)
 (ab (idx x.1 a.1.2.1) λb=>ab (jx (b.1,())) λd=>ab (GH (b,())) λe=>aj (nt e.1)
 (some<|Sum.inr (1,((1:Int),a.1.2.1,()),()))
 (aj (aO 0 a.1.2.1)
 (ab (idx x.1<|cE i64 a.1.2.1 1) λc=>ab (oi (c.1,b.1,())) λf=>aj (ca 0 f.1)
 (some<|Sum.inr (1,((1:Int),a.1.2.1,()),()))
 (aj (inside 0 a.1.2.1<|len x.1)
 (ab (yy (sub x.1 (0:Int)<|minus a.1.2.1 0,d.1,())) λg=>aj (nt<|aL g.1 0)
 (some<|Sum.inr (1,((1:Int),a.1.2.1,()),()))
 (some<|Sum.inl ((a.1.1,ax i64 a.1.2.1 1,()),())))
 none))
 (aj (inside 0 a.1.2.1<|len x.1)
 (ab (yy (sub x.1 (0:Int)<|minus a.1.2.1 0,d.1,())) λc=>aj (nt<|aL c.1 0)
 (some<|Sum.inr (1,((1:Int),a.1.2.1,()),()))
 (some<|Sum.inl ((a.1.1,ax i64 a.1.2.1 1,()),())))
 none)))
 (some<|Sum.inr (0,(a.1.1,a.1.2.1,()),()))
def e9(x:(List cf)×ai):Option (Int×ai) :=
 aj (aO 64<|len x.1)
 (some ((1:Int),()))
 (ab (Loop (Jb x) (((0:Int),(0:Int),()),())) λa=>aj (cR a.1 0)
 (some ((0:Int),()))
 (some (a.2.1.1,())))
def lX(x:(List cf)×ai):Option ((List cf)×ai) :=
 bif fits (len x.1) then some (x.1,()) else none
def N5(x:(List cf)×cf×ai)(a:zo×ai×Sb×ai):Option ((zo×ai×Sb×ai)⊕(Nat×zo×ai×Sb×ai)) :=
 aj (aO a.1.2.1<|len x.1)
 (aj (within a.1.2.1<|len x.1)
 (ab (idx x.1 a.1.2.1) λc=>ab (aj (nt<|bz c.1 a.2.2.1)
 (ab (eX (c.1,a.2.2.1,())) λb=>some b.1)
 (some true)) λb=>aj b
 (some<|Sum.inr (1,(a.1.2.1,a.1.2.1,()),(),a.2.2.1,()))
 (some<|Sum.inl ((a.1.1,ax i64 a.1.2.1 1,()),(),a.2.2.1,())))
 none)
 (some<|Sum.inr (0,(a.1.1,a.1.2.1,()),(),a.2.2.1,()))
def N6(a:(Int×Int×ai×ai)×ai×Sb×(List cf)×ai):Option (Yy⊕Yy) :=
 cA (aj (aO a.1.2.1<|len a.2.2.2.1)
 (aj (within a.1.2.1<|len a.2.2.2.1)
 (ab (idx a.2.2.2.1 a.1.2.1) λb=>ab (aj (nt<|bz b.1 a.2.2.1)
 (ab (eX (b.1,a.2.2.1,())) λc=>some c.1)
 (some true)) λc=>ab (aj (nt c)
 (aj (within a.1.1<|len a.2.2.2.1)
 (ab (idx a.2.2.2.1 a.1.1) λd=>ab (idx a.2.2.2.1 a.1.1) λe=>ab (idx a.2.2.2.1 a.1.1) λf=>some ((ax i64 a.1.1 1,(),()),jF a.2.2.2.1 a.1.1 b,()))
 none)
 (some ((a.1.1,(),()),a.2.2.2.1,()))) λd=>some (Sum.inl ((d.1.1,ax i64 a.1.2.1 1,(),()),(),a.2.2.1,d.2.1,())))
 none)
 (some<|Sum.inr (0,(a.1.1,a.1.2.1,(),()),(),a.2.2.1,a.2.2.2.1,())))
def N7(a:(Int×Int×ai×ai)×ai×Sb×(List cf)×ai):Option (Yy⊕Yy) :=
 cA (aj (aO a.1.2.1<|len a.2.2.2.1)
 (aj (within a.1.2.1<|len a.2.2.2.1)
 (ab (idx a.2.2.2.1 a.1.2.1) λb=>ab (aj (nt<|bz b.1 a.2.2.1)
 (ab (eX (b.1,a.2.2.1,())) λc=>some c.1)
 (some true)) λc=>ab (aj (nt c)
 (aj (within a.1.1<|len a.2.2.2.1)
 (ab (idx a.2.2.2.1 a.1.1) λd=>ab (idx a.2.2.2.1 a.1.1) λe=>ab (idx a.2.2.2.1 a.1.1) λf=>some ((ax i64 a.1.1 1,(),()),jF a.2.2.2.1 a.1.1 b,()))
 none)
 (some ((a.1.1,(),()),a.2.2.2.1,()))) λd=>some (Sum.inl ((d.1.1,ax i64 a.1.2.1 1,(),()),(),a.2.2.1,d.2.1,())))
 none)
 (some<|Sum.inr (0,(a.1.1,a.1.2.1,(),()),(),a.2.2.1,a.2.2.2.1,())))
def DA(x:(List cf)×cf×ai):Option ((List cf)×Int×ai) :=
 ab (e9 (x.1,())) (λj=>ab (aj (nt<|nt<|aL j.1 0)
 (ab (GH (x.2.1,())) λf=>some (nt f.1))
 (some true)) λf=>aj f
 (some (([]:List cf),(1:Int),()))
 (ab (jx (x.2.1.1,())) λk=>ab (yy (x.1,k.1,())) λh=>aj (nt<|aL h.1 0)
 (some (([]:List cf),h.1,()))
 (ab (gw (x.1,x.2.1.1,())) λd=>ab (aj d.2.1
 (ab (idx x.1 d.1) λg=>some (aL g.2.1 2))
 (some false)) λg=>aj (aj g
 (aL x.2.1.2.1 2)
 false)
 (aj (fits<|len x.1)
 (aj (within d.1<|len x.1)
 (ab (idx x.1 d.1) λi=>ab (idx x.1 d.1) λc=>ab (idx x.1 d.1) λa=>some (jF x.1 d.1 x.2.1,(0:Int),()))
 none)
 none)
 (ab (e9 (x.1,())) λi=>aj (nt<|aL i.1 0)
 (aj (ca 64<|len ([]:List cf))
 (some (([]:List cf),(5:Int),()))
 (ab (gw (([]:List cf),x.2.1.1,())) λc=>none))
 (aj (fits<|len x.1)
 (ab (Loop (N5 x) (((0:Int),(0:Int),()),(),x.2.1.1,())) λc=>aj (cR c.1 0)
 (aj (aL (-1)<|-1)
 (aj (ca 64<|len x.1)
 (some (([]:List cf),(5:Int),()))
 (ab (gw (x.1,x.2.1.1,())) λa=>ab (aZ x.1 (a.1,([x.2.1]:List cf),())) λb=>some (b,(0:Int),())))
 (ab (Loop (N6) (((-1:Int),ax i64 (-1) 1,(),()),(),c.2.2.2.1,x.1,())) λa=>aj (inside a.1.1 (len a.2.2.2.1)<|len a.2.2.2.1)
 (aj (inside 0 a.1.1<|len<|over a.2.2.2.1 a.1.1<|iB (minus (len a.2.2.2.1) a.1.1) (([]:aq),(0:Int),(0:Int),([]:aq),([]:aq),()))
 (aj (ca 64<|minus a.1.1 0)
 (some (([]:List cf),(5:Int),()))
 (ab (gw (sub (over a.2.2.2.1 a.1.1<|iB (minus (len a.2.2.2.1) a.1.1) (([]:aq),(0:Int),(0:Int),([]:aq),([]:aq),())) (0:Int)<|minus a.1.1 0,x.2.1.1,())) λb=>ab (aZ (sub (over a.2.2.2.1 a.1.1<|iB (minus (len a.2.2.2.1) a.1.1) (([]:aq),(0:Int),(0:Int),([]:aq),([]:aq),())) (0:Int)<|minus a.1.1 0) (b.1,([x.2.1]:List cf),())) λe=>some (e,(0:Int),())))
 none)
 none))
 (aj (aL c.2.1.1<|-1)
 (aj (ca 64<|len x.1)
 (some (([]:List cf),(5:Int),()))
 (ab (gw (x.1,x.2.1.1,())) λa=>ab (aZ x.1 (a.1,([x.2.1]:List cf),())) λb=>some (b,(0:Int),())))
 (ab (Loop (N7) ((c.2.1.1,ax i64 c.2.1.1 1,(),()),(),c.2.2.2.1,x.1,())) λa=>aj (inside a.1.1 (len a.2.2.2.1)<|len a.2.2.2.1)
 (aj (inside 0 a.1.1<|len<|over a.2.2.2.1 a.1.1<|iB (minus (len a.2.2.2.1) a.1.1) (([]:aq),(0:Int),(0:Int),([]:aq),([]:aq),()))
 (aj (ca 64<|minus a.1.1 0)
 (some (([]:List cf),(5:Int),()))
 (ab (gw (sub (over a.2.2.2.1 a.1.1<|iB (minus (len a.2.2.2.1) a.1.1) (([]:aq),(0:Int),(0:Int),([]:aq),([]:aq),())) (0:Int)<|minus a.1.1 0,x.2.1.1,())) λb=>ab (aZ (sub (over a.2.2.2.1 a.1.1<|iB (minus (len a.2.2.2.1) a.1.1) (([]:aq),(0:Int),(0:Int),([]:aq),([]:aq),())) (0:Int)<|minus a.1.1 0) (b.1,([x.2.1]:List cf),())) λe=>some (e,(0:Int),())))
 none)
 none)))
 none)))))
def Ib(x:(List cf)×Sb×ai):Option (cf×Bool×ai) :=
 ab (e9 (x.1,())) (λb=>aj (nt<|aL b.1 0)
 (some ((([]:aq),(0:Int),(0:Int),([]:aq),([]:aq),()),false,()))
 (ab (gw (x.1,x.2.1,())) λa=>aj (nt a.2.1)
 (some ((([]:aq),(0:Int),(0:Int),([]:aq),([]:aq),()),false,()))
 (ab (idx x.1 a.1) λc=>some (c,true,()))))
def l5(x:Sb×ai)(a:(Bool×Int×ai)×ai):Option (((Bool×Int×ai)×ai)⊕(Nat×(Bool×Int×ai)×ai)) :=
 aj (aO a.1.2.1<|len x.1)
 (ab (idx x.1 a.1.2.1) λb=>aj (aL (u8 b) 0)
 (some<|Sum.inr (1,(false,a.1.2.1,()),()))
 (some<|Sum.inl ((a.1.1,ax i64 a.1.2.1 1,()),())))
 (some<|Sum.inr (0,(a.1.1,a.1.2.1,()),()))
def pR(x:Sb×ai):Option (Bool×ai) :=
 ab (Loop (l5 x) ((false,(0:Int),()),())) (λa=>aj (cR a.1 0)
 (some (aj (ca 1<|len x.1)
 (ca (len x.1) 100)
 false,()))
 (some (a.2.1.1,())))
def ku(x:cf×ai):Option (Bool×ai) :=
 ab (jy (x.1.1,())) (λb=>ab (pM (b.2.1,())) λc=>ab (aj (nt<|bz x.1.1 ([]:aq))
 (ab (uG (x.1.1,())) λa=>some a.1)
 (some false)) λa=>aj (aL x.1.2.1 1)
 (some (aj (aj (aj (aj (aj (aj (aj a
 (ca (len x.1.1) 92)
 false)
 (ca (len b.2.1) 28)
 false)
 (aL c.1 0)
 false)
 (ca 0 x.1.2.2.1)
 false)
 (ca x.1.2.2.1 4095)
 false)
 (bz x.1.2.2.2.2.1 ([]:aq))
 false)
 (ca (len x.1.2.2.2.1) 8192)
 false,()))
 (aj (aL x.1.2.1 2)
 (some (aj (aj (aj (aj (aj (aj (aj a
 (ca (len x.1.1) 92)
 false)
 (ca (len b.2.1) 28)
 false)
 (aL c.1 0)
 false)
 (ca 0 x.1.2.2.1)
 false)
 (ca x.1.2.2.1 4095)
 false)
 (bz x.1.2.2.2.2.1 ([]:aq))
 false)
 (bz x.1.2.2.2.1 ([]:aq))
 false,()))
 (aj (aL x.1.2.1 3)
 (ab (aj (aj (aj (aj (aj (aj (aj a
 (ca (len x.1.1) 92)
 false)
 (ca (len b.2.1) 28)
 false)
 (aL c.1 0)
 false)
 (ca 0 x.1.2.2.1)
 false)
 (ca x.1.2.2.1 4095)
 false)
 (bz x.1.2.2.2.1 ([]:aq))
 false)
 (ab (pR (x.1.2.2.2.2.1,())) λd=>some d.1)
 (some false)) λd=>some (d,()))
 (some (false,())))))
def oq(x:(List cf)×Sb×ai)(a:zo×ai):Option ((zo×ai)⊕(Nat×zo×ai)) :=
 aj (aO a.1.2.1<|len x.1)
 (ab (idx x.1 a.1.2.1) λb=>aj (bz b.1 x.2.1)
 (some<|Sum.inr (1,(a.1.2.1,a.1.2.1,()),()))
 (some<|Sum.inl ((a.1.1,ax i64 a.1.2.1 1,()),())))
 (some<|Sum.inr (0,(a.1.1,a.1.2.1,()),()))
def gx(x:(List cf)×Sb×ai):Option (Int×ai) :=
 ab (Loop (oq x) (((0:Int),(0:Int),()),())) (λa=>aj (cR a.1 0)
 (some ((-1:Int),()))
 (some (a.2.1.1,())))
def mG(x:(List cf)×Sb×ai):Option (Bool×ai) :=
 ab (gx (x.1,x.2.1,())) (λb=>ab (aj (nt<|bz x.2.1 ([]:aq))
 (ab (aj (ca 0 b.1)
 (ab (idx x.1 b.1) λa=>some (aL a.2.1 2))
 (some false)) λa=>some a)
 (some true)) λa=>some (a,()))
def ry(x:(List cf)×ai)(a:(Bool×Int×ai)×ai):Option (((Bool×Int×ai)×ai)⊕(Nat×(Bool×Int×ai)×ai)) :=
 aj (aO a.1.2.1<|len x.1)
 (ab (idx x.1 a.1.2.1) λb=>ab (jy (b.1,())) λc=>ab (idx x.1 a.1.2.1) λd=>ab (ku (d,())) λe=>aj (nt e.1)
 (some<|Sum.inr (1,(false,a.1.2.1,()),()))
 (ab (mG (x.1,c.1,())) λf=>aj (nt f.1)
 (some<|Sum.inr (1,(false,a.1.2.1,()),()))
 (aj (aO 0 a.1.2.1)
 (ab (idx x.1<|cE i64 a.1.2.1 1) λg=>ab (idx x.1 a.1.2.1) λh=>ab (lf (g.1,h.1,())) λi=>aj (ca 0 i.1)
 (some<|Sum.inr (1,(false,a.1.2.1,()),()))
 (some<|Sum.inl ((a.1.1,ax i64 a.1.2.1 1,()),())))
 (some<|Sum.inl ((a.1.1,ax i64 a.1.2.1 1,()),())))))
 (some<|Sum.inr (0,(a.1.1,a.1.2.1,()),()))
def kJ(x:(List cf)×ai):Option (Bool×ai) :=
 aj (aO 64<|len x.1)
 (some (false,()))
 (ab (Loop (ry x) ((false,(0:Int),()),())) λa=>aj (cR a.1 0)
 (some (true,()))
 (some (a.2.1.1,())))
def hY(x:(List cf)×Sb×Bool×ai)(a:(ai×Int×ai)×(List cf)×ai):Option (((ai×Int×ai)×(List cf)×ai)⊕((ai×Int×ai)×(List cf)×ai)) :=
 cA (aj (aO a.1.2.1<|len x.1)
 (ab (idx x.1 a.1.2.1) λd=>ab (ri (d.1,x.2.1,())) λe=>ab (aj (nt e.1)
 (ab (aj (nt<|nt x.2.2.1)
 (ab (idx x.1 a.1.2.1) λb=>some (nt<|bz b.1 x.2.1))
 (some true)) λb=>some b)
 (some false)) λb=>ab (aj b
 (ab (idx x.1 a.1.2.1) λc=>aj (fits<|plus (len a.2.1)<|len ([c]:List cf))
 (some (((),()),app a.2.1 ([c]:List cf),()))
 none)
 (some (((),()),a.2.1,()))) λc=>some (Sum.inl (((),ax i64 a.1.2.1 1,()),c.2.1,())))
 (some<|Sum.inr (0,((),a.1.2.1,()),a.2.1,())))
def iJ(x:(List cf)×Sb×Bool×ai):Option ((List cf)×ai) :=
 ab (Loop (hY x) (((),(0:Int),()),([]:List cf),())) (λa=>some (a.2.1,()))
def ka(x:(List cf)×cf×ai)(d:((List cf)×ai)×ai)(a:(Int×ai)×ai):Option (((Int×ai)×ai)⊕((Int×ai)×ai)) :=
 cA (aj (aO a.1.1<|len d.1.1)
 (ab (idx d.1.1 a.1.1) λb=>ab (lf (b.1,x.2.1.1,())) λc=>aj (aO c.1 0)
 (some<|Sum.inl ((ax i64 a.1.1 1,()),()))
 (some<|Sum.inr (0,(a.1.1,()),())))
 (some<|Sum.inr (0,(a.1.1,()),())))
def mH(x:(List cf)×cf×ai):Option ((List cf)×Int×ai) :=
 ab (kJ (x.1,())) (λh=>ab (aj (nt<|nt h.1)
 (ab (ku (x.2.1,())) λd=>some (nt d.1))
 (some true)) λd=>aj d
 (some (([]:List cf),(1:Int),()))
 (ab (jy (x.2.1.1,())) λe=>ab (aj (nt<|bz e.1 ([]:aq))
 (ab (gx (x.1,e.1,())) λf=>some (aO f.1 0))
 (some false)) λf=>aj f
 (some (([]:List cf),(3:Int),()))
 (ab (mG (x.1,e.1,())) λi=>aj (nt i.1)
 (some (([]:List cf),(12:Int),()))
 (ab (gx (x.1,x.2.1.1,())) λb=>ab (aj (ca 0 b.1)
 (ab (idx x.1 b.1) λg=>some (aL g.2.1 2))
 (some false)) λg=>ab (aj (aj g
 (aL x.2.1.2.1 2)
 false)
 (aj (inside 0 b.1<|len x.1)
 (aj (fits<|plus (len ([]:List cf))<|len<|sub x.1 (0:Int)<|minus b.1 0)
 (aj (inside (ax i64 b.1 1) (len x.1)<|len x.1)
 (aj (fits<|plus (len<|app ([]:List cf)<|sub x.1 (0:Int)<|minus b.1 0)<|len<|sub x.1 (ax i64 b.1 1)<|minus (len x.1)<|ax i64 b.1 1)
 (some ((app (app ([]:List cf)<|sub x.1 (0:Int)<|minus b.1 0)<|sub x.1 (ax i64 b.1 1)<|minus (len x.1)<|ax i64 b.1 1,()),()))
 none)
 none)
 none)
 none)
 (ab (aj (ca 0 b.1)
 (ab (iJ (x.1,x.2.1.1,true,())) λa=>some ((a.1,()),()))
 (some ((x.1,()),()))) λa=>some ((a.1.1,()),()))) λa=>aj (ca 64<|len a.1.1)
 (some (([]:List cf),(5:Int),()))
 (ab (Loop (ka x a) (((0:Int),()),())) λc=>aj (inside 0 c.1.1<|len a.1.1)
 (aj (fits<|plus (len ([]:List cf))<|len<|sub a.1.1 (0:Int)<|minus c.1.1 0)
 (aj (fits<|plus (len<|app ([]:List cf)<|sub a.1.1 (0:Int)<|minus c.1.1 0)<|len ([x.2.1]:List cf))
 (aj (inside c.1.1 (len a.1.1)<|len a.1.1)
 (aj (fits<|plus (len<|app (app ([]:List cf)<|sub a.1.1 (0:Int)<|minus c.1.1 0) ([x.2.1]:List cf))<|len<|sub a.1.1 c.1.1<|minus (len a.1.1) c.1.1)
 (some (app (app (app ([]:List cf)<|sub a.1.1 (0:Int)<|minus c.1.1 0) ([x.2.1]:List cf))<|sub a.1.1 c.1.1<|minus (len a.1.1) c.1.1,(0:Int),()))
 none)
 none)
 none)
 none)
 none)))))
end Go.Ge
namespace Go.Ge
variable [Lp]
set_option maxRecDepth 100000
abbrev sZ:=(List<|Sb×Int×Int×Sb×Sb×ai)
abbrev Ic:=((Int×Int×ai×ai)×ai×Sb×sZ×ai)
abbrev Ul:=(Sb×Int×Int×Sb×Sb×ai)
def GI(x:sZ×Sb×ai)(a:(Int×Int×ai)×ai×Sb×ai):Option (((Int×Int×ai)×ai×Sb×ai)⊕(Nat×(Int×Int×ai)×ai×Sb×ai)) :=
 aj (aO a.1.2.1<|len x.1)
 (aj (within a.1.2.1<|len x.1)
 (ab (idx x.1 a.1.2.1) λc=>ab (aj (nt<|bz c.1 a.2.2.1)
 (ab (eX (c.1,a.2.2.1,())) λb=>some b.1)
 (some true)) λb=>aj b
 (some<|Sum.inr (1,(a.1.2.1,a.1.2.1,()),(),a.2.2.1,()))
 (some<|Sum.inl ((a.1.1,ax i64 a.1.2.1 1,()),(),a.2.2.1,())))
 none)
 (some<|Sum.inr (0,(a.1.1,a.1.2.1,()),(),a.2.2.1,()))
def GJ(a:(Int×Int×ai×ai)×ai×Sb×sZ×ai):Option (Ic⊕Ic) :=
 cA (aj (aO a.1.2.1<|len a.2.2.2.1)
 (aj (within a.1.2.1<|len a.2.2.2.1)
 (ab (idx a.2.2.2.1 a.1.2.1) λb=>ab (aj (nt<|bz b.1 a.2.2.1)
 (ab (eX (b.1,a.2.2.1,())) λc=>some c.1)
 (some true)) λc=>ab (aj (nt c)
 (aj (within a.1.1<|len a.2.2.2.1)
 (ab (idx a.2.2.2.1 a.1.1) λd=>ab (idx a.2.2.2.1 a.1.1) λe=>ab (idx a.2.2.2.1 a.1.1) λf=>some ((ax i64 a.1.1 1,(),()),jF a.2.2.2.1 a.1.1 b,()))
 none)
 (some ((a.1.1,(),()),a.2.2.2.1,()))) λd=>some (Sum.inl ((d.1.1,ax i64 a.1.2.1 1,(),()),(),a.2.2.1,d.2.1,())))
 none)
 (some<|Sum.inr (0,(a.1.1,a.1.2.1,(),()),(),a.2.2.1,a.2.2.2.1,())))
def GK(a:(Int×Int×ai×ai)×ai×Sb×sZ×ai):Option (Ic⊕Ic) :=
 cA (aj (aO a.1.2.1<|len a.2.2.2.1)
 (aj (within a.1.2.1<|len a.2.2.2.1)
 (ab (idx a.2.2.2.1 a.1.2.1) λb=>ab (aj (nt<|bz b.1 a.2.2.1)
 (ab (eX (b.1,a.2.2.1,())) λc=>some c.1)
 (some true)) λc=>ab (aj (nt c)
 (aj (within a.1.1<|len a.2.2.2.1)
 (ab (idx a.2.2.2.1 a.1.1) λd=>ab (idx a.2.2.2.1 a.1.1) λe=>ab (idx a.2.2.2.1 a.1.1) λf=>some ((ax i64 a.1.1 1,(),()),jF a.2.2.2.1 a.1.1 b,()))
 none)
 (some ((a.1.1,(),()),a.2.2.2.1,()))) λd=>some (Sum.inl ((d.1.1,ax i64 a.1.2.1 1,(),()),(),a.2.2.1,d.2.1,())))
 none)
 (some<|Sum.inr (0,(a.1.1,a.1.2.1,(),()),(),a.2.2.1,a.2.2.2.1,())))
def Cp(x:sZ×Sb×ai):Option (sZ×ai) :=
 ab (e9 (x.1,())) (λc=>aj (nt<|aL c.1 0)
 (some (([]:List Ul),()))
 (aj (fits<|len x.1)
 (ab (Loop (GI x) (((0:Int),(0:Int),()),(),x.2.1,())) λb=>aj (cR b.1 0)
 (aj (aL (-1)<|-1)
 (some (x.1,()))
 (ab (Loop (GJ) (((-1:Int),ax i64 (-1) 1,(),()),(),b.2.2.2.1,x.1,())) λa=>aj (inside a.1.1 (len a.2.2.2.1)<|len a.2.2.2.1)
 (aj (inside 0 a.1.1<|len<|over a.2.2.2.1 a.1.1<|iB (minus (len a.2.2.2.1) a.1.1) (([]:aq),(0:Int),(0:Int),([]:aq),([]:aq),()))
 (some (sub (over a.2.2.2.1 a.1.1<|iB (minus (len a.2.2.2.1) a.1.1) (([]:aq),(0:Int),(0:Int),([]:aq),([]:aq),())) (0:Int)<|minus a.1.1 0,()))
 none)
 none))
 (aj (aL b.2.1.1<|-1)
 (some (x.1,()))
 (ab (Loop (GK) ((b.2.1.1,ax i64 b.2.1.1 1,(),()),(),b.2.2.2.1,x.1,())) λa=>aj (inside a.1.1 (len a.2.2.2.1)<|len a.2.2.2.1)
 (aj (inside 0 a.1.1<|len<|over a.2.2.2.1 a.1.1<|iB (minus (len a.2.2.2.1) a.1.1) (([]:aq),(0:Int),(0:Int),([]:aq),([]:aq),()))
 (some (sub (over a.2.2.2.1 a.1.1<|iB (minus (len a.2.2.2.1) a.1.1) (([]:aq),(0:Int),(0:Int),([]:aq),([]:aq),())) (0:Int)<|minus a.1.1 0,()))
 none)
 none)))
 none))
def tw(x:sZ×Sb×ai):Option (Ul×Bool×ai) :=
 ab (gx (x.1,x.2.1,())) (λa=>ab (kJ (x.1,())) λb=>aj (aj (nt<|nt b.1)
 (aO a.1 0)
 true)
 (some ((([]:aq),(0:Int),(0:Int),([]:aq),([]:aq),()),false,()))
 (ab (idx x.1 a.1) λc=>some (c,true,())))
def pS(x:sZ×Sb×ai):Option (sZ×ai) :=
 ab (kJ (x.1,())) (λa=>aj (nt a.1)
 (some (([]:List Ul),()))
 (ab (iJ (x.1,x.2.1,true,())) λb=>some (b.1,())))
def Jc(x:sZ×Sb×ai)(a:(Int×Int×ai)×ai×Sb×ai):Option (((Int×Int×ai)×ai×Sb×ai)⊕(Nat×(Int×Int×ai)×ai×Sb×ai)) :=
 aj (aO a.1.2.1<|len x.1)
 (aj (within a.1.2.1<|len x.1)
 (ab (idx x.1 a.1.2.1) λb=>ab (eX (b.1,a.2.2.1,())) λc=>aj c.1
 (some<|Sum.inr (1,(a.1.2.1,a.1.2.1,()),(),a.2.2.1,()))
 (some<|Sum.inl ((a.1.1,ax i64 a.1.2.1 1,()),(),a.2.2.1,())))
 none)
 (some<|Sum.inr (0,(a.1.1,a.1.2.1,()),(),a.2.2.1,()))
def Jd(a:(Int×Int×ai×ai)×ai×Sb×sZ×ai):Option (Ic⊕Ic) :=
 cA (aj (aO a.1.2.1<|len a.2.2.2.1)
 (aj (within a.1.2.1<|len a.2.2.2.1)
 (ab (idx a.2.2.2.1 a.1.2.1) λc=>ab (eX (c.1,a.2.2.1,())) λd=>ab (aj (nt d.1)
 (aj (within a.1.1<|len a.2.2.2.1)
 (ab (idx a.2.2.2.1 a.1.1) λb=>ab (idx a.2.2.2.1 a.1.1) λe=>ab (idx a.2.2.2.1 a.1.1) λf=>some ((ax i64 a.1.1 1,(),()),jF a.2.2.2.1 a.1.1 c,()))
 none)
 (some ((a.1.1,(),()),a.2.2.2.1,()))) λb=>some (Sum.inl ((b.1.1,ax i64 a.1.2.1 1,(),()),(),a.2.2.1,b.2.1,())))
 none)
 (some<|Sum.inr (0,(a.1.1,a.1.2.1,(),()),(),a.2.2.1,a.2.2.2.1,())))
def Je(a:(Int×Int×ai×ai)×ai×Sb×sZ×ai):Option (Ic⊕Ic) :=
 cA (aj (aO a.1.2.1<|len a.2.2.2.1)
 (aj (within a.1.2.1<|len a.2.2.2.1)
 (ab (idx a.2.2.2.1 a.1.2.1) λc=>ab (eX (c.1,a.2.2.1,())) λd=>ab (aj (nt d.1)
 (aj (within a.1.1<|len a.2.2.2.1)
 (ab (idx a.2.2.2.1 a.1.1) λb=>ab (idx a.2.2.2.1 a.1.1) λe=>ab (idx a.2.2.2.1 a.1.1) λf=>some ((ax i64 a.1.1 1,(),()),jF a.2.2.2.1 a.1.1 c,()))
 none)
 (some ((a.1.1,(),()),a.2.2.2.1,()))) λb=>some (Sum.inl ((b.1.1,ax i64 a.1.2.1 1,(),()),(),a.2.2.1,b.2.1,())))
 none)
 (some<|Sum.inr (0,(a.1.1,a.1.2.1,(),()),(),a.2.2.1,a.2.2.2.1,())))
def E7(x:sZ×Sb×ai):Option (sZ×ai) :=
 ab (e9 (x.1,())) (λc=>aj (nt<|aL c.1 0)
 (some (([]:List Ul),()))
 (aj (fits<|len x.1)
 (ab (Loop (Jc x) (((0:Int),(0:Int),()),(),x.2.1,())) λb=>aj (cR b.1 0)
 (aj (aL (-1)<|-1)
 (some (x.1,()))
 (ab (Loop (Jd) (((-1:Int),ax i64 (-1) 1,(),()),(),b.2.2.2.1,x.1,())) λa=>aj (inside a.1.1 (len a.2.2.2.1)<|len a.2.2.2.1)
 (aj (inside 0 a.1.1<|len<|over a.2.2.2.1 a.1.1<|iB (minus (len a.2.2.2.1) a.1.1) (([]:aq),(0:Int),(0:Int),([]:aq),([]:aq),()))
 (some (sub (over a.2.2.2.1 a.1.1<|iB (minus (len a.2.2.2.1) a.1.1) (([]:aq),(0:Int),(0:Int),([]:aq),([]:aq),())) (0:Int)<|minus a.1.1 0,()))
 none)
 none))
 (aj (aL b.2.1.1<|-1)
 (some (x.1,()))
 (ab (Loop (Je) ((b.2.1.1,ax i64 b.2.1.1 1,(),()),(),b.2.2.2.1,x.1,())) λa=>aj (inside a.1.1 (len a.2.2.2.1)<|len a.2.2.2.1)
 (aj (inside 0 a.1.1<|len<|over a.2.2.2.1 a.1.1<|iB (minus (len a.2.2.2.1) a.1.1) (([]:aq),(0:Int),(0:Int),([]:aq),([]:aq),()))
 (some (sub (over a.2.2.2.1 a.1.1<|iB (minus (len a.2.2.2.1) a.1.1) (([]:aq),(0:Int),(0:Int),([]:aq),([]:aq),())) (0:Int)<|minus a.1.1 0,()))
 none)
 none)))
 none))
def rz(x:sZ×Sb×ai):Option (sZ×ai) :=
 ab (kJ (x.1,())) (λa=>aj (nt a.1)
 (some (([]:List Ul),()))
 (ab (iJ (x.1,x.2.1,false,())) λb=>some (b.1,())))
end Go.Ge
namespace Go.Ge
variable [Lp]
set_option maxRecDepth 100000
abbrev Ie:=(List<|Sb×Int×Int×Sb×Sb×ai)
abbrev vG:=(Int×Sb×ai)
def DB(a:(Ie×Ie×ai)×ai×ai×(List vG)×ai):Option (((Ie×Ie×ai)×ai×ai×(List vG)×ai)⊕((Ie×Ie×ai)×ai×ai×(List vG)×ai)) :=
 cA (aj (aj (nt<|aO 0<|len a.1.1)
 (aO 0<|len a.1.2.1)
 true)
 (ab (aj (aL (len a.1.1) 0)
 (some (((1:Int),()),()))
 (ab (aj (aL (len a.1.2.1) 0)
 (some (((-1:Int),()),()))
 (ab (idx a.1.1 (0:Int)) λd=>ab (idx a.1.2.1 (0:Int)) λb=>ab (oi (d.1,b.1,())) λc=>some ((c.1,()),()))) λd=>some ((d.1.1,()),()))) λd=>ab (aj (aO d.1.1 0)
 (ab (idx a.1.1 (0:Int)) λb=>aj (fits<|plus (len a.2.2.2.1)<|len ([((3:Int),b.1,())]:List vG))
 (some ((),(),(),app a.2.2.2.1 ([((3:Int),b.1,())]:List vG),()))
 none)
 (ab (aj (aO 0 d.1.1)
 (ab (idx a.1.2.1 (0:Int)) λb=>aj (fits<|plus (len a.2.2.2.1)<|len ([((1:Int),b.1,())]:List vG))
 (some ((),(),(),app a.2.2.2.1 ([((1:Int),b.1,())]:List vG),()))
 none)
 (ab (idx a.1.1 (0:Int)) λb=>ab (idx a.1.2.1 (0:Int)) λc=>ab (aj (nt<|an (bz b.1 c.1)<|an (aL b.2.1 c.2.1)<|an (aL b.2.2.1 c.2.2.1)<|an (bz b.2.2.2.1 c.2.2.2.1)<|an (bz b.2.2.2.2.1 c.2.2.2.2.1) true)
 (aj (fits<|plus (len a.2.2.2.1)<|len ([((2:Int),b.1,())]:List vG))
 (some ((),(),(),app a.2.2.2.1 ([((2:Int),b.1,())]:List vG),()))
 none)
 (some ((),(),(),a.2.2.2.1,()))) λe=>some ((),(),(),e.2.2.2.1,()))) λb=>some ((),(),(),b.2.2.2.1,()))) λb=>ab (aj (ca d.1.1 0)
 (aj (inside 1 (len a.1.1)<|len a.1.1)
 (some ((sub a.1.1 (1:Int)<|minus (len a.1.1) 1,()),()))
 none)
 (some ((a.1.1,()),()))) λc=>ab (aj (ca 0 d.1.1)
 (aj (inside 1 (len a.1.2.1)<|len a.1.2.1)
 (some ((sub a.1.2.1 (1:Int)<|minus (len a.1.2.1) 1,()),()))
 none)
 (some ((a.1.2.1,()),()))) λe=>some (Sum.inl ((c.1.1,e.1.1,()),(),(),b.2.2.2.1,())))
 (some<|Sum.inr (0,(a.1.1,a.1.2.1,()),(),(),a.2.2.2.1,())))
def zp(x:Ie×Ie×ai):Option ((List vG)×Int×ai) :=
 ab (e9 (x.1,())) (λb=>ab (aj (nt<|nt<|aL b.1 0)
 (ab (e9 (x.2.1,())) λa=>some (nt<|aL a.1 0))
 (some true)) λa=>aj a
 (some (([]:List vG),(1:Int),()))
 (ab (Loop (DB) ((x.1,x.2.1,()),(),(),([]:List vG),())) λc=>some (c.2.2.2.1,(0:Int),())))
def Jf(x:(List vG)×ai)(a:(Int×ai)×(ai×ai×ai)×(List<|Int)×ai):Option (((Int×ai)×(ai×ai×ai)×(List<|Int)×ai)⊕((Int×ai)×(ai×ai×ai)×(List<|Int)×ai)) :=
 cA (aj (aO a.1.1<|len x.1)
 (ab (idx x.1 a.1.1) λc=>ab (aj (aj (ca 1 c.1)
 (ca c.1 3)
 false)
 (aj (within c.1 4)
 (ab (idx ([([]:aq),([43]:aq),([126]:aq),([45]:aq)]:List Sb) c.1) λb=>some ((b,()),()))
 none)
 (some ((([63]:aq),()),()))) λb=>aj (fits<|plus (len b.1.1)<|len ([32]:aq))
 (ab (mX (c.2.1,())) λd=>aj (fits<|plus (len<|app b.1.1 ([32]:aq))<|len d.1)
 (aj (fits<|plus (len<|app (app b.1.1 ([32]:aq)) d.1)<|len ([10]:aq))
 (aj (fits<|plus (len a.2.2.1)<|len<|av<|app (app (app b.1.1 ([32]:aq)) d.1) ([10]:aq))
 (some<|Sum.inl ((ax i64 a.1.1 1,()),((),(),a.2.1.2.2),app a.2.2.1<|av<|app (app (app b.1.1 ([32]:aq)) d.1) ([10]:aq),()))
 none)
 none)
 none)
 none)
 (some<|Sum.inr (0,(a.1.1,()),((),(),a.2.1.2.2),a.2.2.1,())))
def E8(x:(List vG)×ai):Option (Sb×ai) :=
 ab (Loop (Jf x) (((0:Int),()),((),(),()),([]:List (Int)),())) (λa=>some (aX a.2.2.1,()))
end Go.Ge
