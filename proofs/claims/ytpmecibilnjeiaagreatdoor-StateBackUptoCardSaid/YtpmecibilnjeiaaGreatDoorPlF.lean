/- Plain laws of what the functions compute: part 6. -/
import Derived.Test.YtpmecibilnjeiaaGreatDoorPlE
import Derived.Lib.ParseIntBCases
import Derived.Lib.ItoaMem
set_option linter.unusedSectionVars false
set_option linter.unusedVariables false
set_option linter.unusedSimpArgs false
namespace Go.Ge
variable [Lp]
theorem takeWhile_eq{b:Type}{P:b->Bool}:∀{l:List b} {k:Nat},k<=l.length->(∀(j:Nat) (y:b),j<k->l[j]?=some y->P y=true)->(∀y,l[k]?=some y->P y=false)->l.takeWhile P=l.take k/\l.dropWhile P=l.drop k:=by
 intro l;induction l with
 | nil=>intro k d _ _;simp
 | cons a r g =>
   intro k d e f;cases k with
   | zero =>
     have:=f a rfl;simp[Ir,FU,this]
   | succ k =>
     have h:=e 0 a (by omega) rfl;obtain⟨i,m⟩:=g (k:=k) (by simpa using d) (λj y n c=>e (j+1) y (by omega) c) (λy c=>f y c);simp[Ir,FU,h,i,m]
theorem Ea{b S R:Type}{f:S->Option (S⊕R)}(l:List b)(a:b->Bool)(e:Int->Int->List b->S)(g:Int->List b->R)(A:l.length<=4294967296)
  (c:∀(w j:Nat) (L:List b) (x:b),l[j]?=some x->L[j]?=some x->w<=j->j<L.length->aB .i64 (w:Int) 1=((w+1:Nat):Int)->aB .i64 (j:Int) 1=((j+1:Nat):Int) ->
   f (e (w:Int) (j:Int) L)=some (.inl<|if a x=true then e (w:Int) ((j+1:Nat):Int) L else e ((w+1:Nat):Int) ((j+1:Nat):Int) (L.set w x)))
  (h:∀(w:Nat) (L:List b),f (e (w:Int) (L.length:Int) L)=some (.inr<|g (w:Int) L)) :
  ∀(n w j:Nat) (L:List b),l.length-j<=n->w<=j->j<=l.length->L.length=l.length->L.take w=(l.take j).filter (λx=>!a x)->L.drop j=l.drop j ->
   ∃(w':Nat) (L':List b),Loop f (e (w:Int) (j:Int) L)=some (g (w':Int) L')/\L'.length=l.length/\w'<=l.length/\L'.take w'=l.filter (λx=>!a x):=by
 intro n;induction n with
 | zero =>
   intro w j L v q u d i o;obtain rfl:j=L.length:=by omega
   refine⟨w,L,?_,d,by omega,?_⟩
   .rw[aI,h];rfl
   .rw[i,d,wI]
 | succ n r =>
   intro w j L v q u d i o;by_cases y:j=l.length
   .exact r w j L (by omega) q u d i o
   .have s:j<L.length:=by omega
    have hx:l[j]?=some l[j]:=gH (by omega);have t:L[j]?=some l[j]:=by
     have:=congrArg (λz=>z[0]?) o;simpa [mF,hx] using this
    have k:L.drop (j+1)=l.drop (j+1):=by
     have:=congrArg (List.drop 1) o;simpa [vb] using this
    have m:l.take (j+1)=l.take j++[l[j]]:=by rw[Ba,hx];rfl
    rw[aI,c w j L l[j] hx t q s (aK<|by omega) (aK<|by omega)];by_cases p:a l[j]=true
    .rw[aV p];exact r w (j+1) L (by omega) (by omega) (by omega) d (by rw[i,m,MS];simp[p]) k
    .rw[aX p];refine r (w+1) (j+1) (L.set w l[j]) (by omega) (by omega) (by omega) (by simpa using d) ?_ ?_
     .rw[m,MS,<-i,Ba,List.take_set_of_le (bZ w)];simp[p,show w<L.length by omega]
     .rw[List.drop_set_of_lt<|by omega];exact k
theorem zX{a:Type}(L:List a)(w:Nat)(b:w<=L.length)(m:List a):sub (over L (w:Int) m) 0 (minus (w:Int) 0)=L.take w:=by
 rw[iC];unfold over;rw[sQ,kP,Th (by rw[fT];omega),Bj,Zk]
theorem Eb{a:Type}(L:List a)(w:Nat)(b:w<=L.length)(z:a):len (over L (w:Int)<|gK (minus (len L) (w:Int)) z)=(L.length:Int):=by
 unfold over gK minus len;simp;omega
theorem filter_one{b:Type}{l:List b}{P:b->Bool}{k:Nat}{x:b}(d:l[k]?=some x)(f:P x=false)(h:∀(j:Nat) (y:b),j≠k->l[j]?=some y->P y=true):l.filter P=l.take k++l.drop (k+1):=by
 have g:=aD d;have e:l=l.take k++x::l.drop (k+1):=by
  conv=>lhs;rw[<-vV k l,y7 g]
  rw[(fU.1 d).2]
 conv=>lhs;rw[e]
 rw[MS,List.filter_cons,f];have i:(l.take k).filter P=l.take k:=Im.2 λy c=>by
  obtain⟨j,a⟩:=bR.1 c;rw[fA] at a;split at a
  .exact h j y (by omega) a
  .cases a
 have m:(l.drop<|k+1).filter P=l.drop (k+1):=Im.2 λy c=>by
  obtain⟨j,a⟩:=bR.1 c;rw[mF] at a;exact h (k+1+j) y (by omega) a
 rw[i,m];simp
def sL(l:List Nd)(n:Nd):List Nd:=l.takeWhile (λx=>decide (cmp x n.1<0))++n::l.dropWhile (λx=>decide (cmp x n.1<0))
def gone(p:ao)(x:Nd):Bool:=decide (x.1=p)||ca (parts x.1) (parts p)
def mB(l:List Nd)(p:ao):List Nd:=l.filter λx=>!gone p x
theorem Ord.filter{l:List Nd}(h:Ord l)(P:Nd->Bool):Ord (l.filter P):=by
 have c:l.Pairwise λx y=>cmpL (key x) (key y)<0:=by
  rw[ED];intro i j d e a;exact h i j _ _ a (gH d) (gH e)
 have b:=c.filter P;rw[ED] at b;intro i j x y a f g;obtain⟨k,m⟩:=fU.1 f;obtain⟨n,o⟩:=fU.1 g;rw[<-m,<-o];exact b i j k n a
theorem yU.filter{l:List Nd}(h:yU l)(P:Nd->Bool):yU (l.filter P):=⟨fM (MN _ _) h.1,λx a=>h.2 x (vX.1 a).1⟩
theorem acw{l:List Nd}{n:Nd}{k:Nat}{b:Bool}(h:Plc l n.1 k b):sL l n=l.take k++[n]++l.drop k:=by
 obtain⟨c,d⟩:=takeWhile_eq (P:=λx=>decide (cmp x n.1<0)) h.le (λj y e a=>eu (h.lo j y e a)) (λy a=>cU (h.hi k y (bZ _) a));unfold sL;rw[c,d];simp
theorem Kh{l:List Nd}(q:Valid l){p:ao}(v:p≠[])(w:∀x∈l,x.1≠p):∀(m:Nat) (x:Nd),x∈l->(parts x.1).length<=m->ca (parts x.1) (parts p)=false:=by
 intro m;induction m with
 | zero =>
   intro x i j;unfold ca;exact cU (by omega)
 | succ m z =>
   intro x i j;cases r:ca (parts x.1) (parts p) with
   | false=>rfl
   | true =>
     exfalso;unfold ca at r;obtain⟨s,h⟩:=kH r;have c:=q.may x i;unfold eS uT at c;simp only[dv,nE] at c;by_cases d:(bc x.1).1=[]
     .have f:=c.1.1.1.1.1.1.1.2;have t:(parts x.1).length<=1:=by
       rcases pK x.1 with ⟨a,_⟩|⟨a,b,A,D,e⟩
       .unfold parts;split
        .simp
        .rw[oa _ a];simp
       .rw[e] at d;have d:a=[]:=d;subst d;have:qz []=true:=sb.1 f [] (by
         unfold parts;rw[A,aX (by simp)];show []∈b9 ([]++47::b)
         rw[Cr []<|by simp];simp)
        exact absurd this (by decide)
      have:parts p=[]:=vU.1 (by omega);have:=fy p;rw[‹parts p=[]›] at this;exact v this.symm
     .have k:=uU d;rcases q.up x i with e|⟨y,u,n,B⟩
      .exact absurd e d
      .rw[<-n] at k;rw[k] at s h;have o:(parts p).length<=(parts y.1).length:=by simp at s;omega
       rw[Th o] at h;rcases tr (parts p).length (parts y.1).length with g|g
       .have:=z y u (by rw[k] at j;simp at j;omega);unfold ca at this;exact absurd ⟨g,h⟩ (Ol this)
       .have C:parts p=parts y.1:=by rw[<-h,A8 (by omega)]
        refine w y u ?_;rw[<-fy y.1,<-C,fy]
theorem UR{l:List Nd}(c:Valid l){p:ao}(d:p≠[])(a:∀x∈l,x.1≠p):mB l p=l:=Im.2 λx b=>by
 unfold gone;rw[Kh c d a _ x b<|bZ _,cU (a x b)];rfl
open Classical in
noncomputable def bz(l:List Nd)(n:Nd):List Nd×Int :=
 if ¬Valid l\/eS n=false then([],1) else
 if(bc n.1).1≠[]/\∀x∈l,x.1≠(bc n.1).1 then([],3) else
 if(bc n.1).1≠[]/\∀x∈l,x.1=(bc n.1).1->x.2.1≠2 then([],12) else
 let r:=if(∃x∈l,x.1=n.1/\x.2.1=2)/\n.2.1=2 then l.filter (λx=>!decide (x.1=n.1)) else mB l n.1
 if 64<=r.length then([],5) else(sL r n,0)
theorem Wg{n:Nd}(h:eS n=true):n.1≠[]:=by
 unfold eS uT at h;simp only[dv,nE] at h;exact h.1.1.1.1.1.1.1.1
theorem acx(l:List Nd)(k:Nat)(n:Nd)(b:k<=l.length)(d:l.length<=4096):aO l ((k:Int),[n],())=some (l.take k++[n]++l.drop k):=by
 unfold aO Fc;dsimp only;have c:inside 0 (k:Int) (len l)=true:=nq (a:=0) (mK _) b;rw[c,bP (by simp;omega)];simp
theorem Sk(r:List Nd)(n:Nd)(a:yU r)(d:Ord r)(j:n.1.length<=200)(c:Int)(e:c=r.length) :
  aj (da 64 c) (some (([]:List Nd),(5:Int),())) (ae (dV (r,n.1,())) λ(y:Int×Bool×ah)=>ae (aO r (y.1,[n],())) λz=>some (z,(0:Int),())) =
   some (if 64<=r.length then([],5,()) else(sL r n,0,())):=by
 subst e;rw[tS];by_cases h:64<=r.length
 .rw[eu<|by omega,ab,aV h]
 .rw[cU<|by omega,af,aX h];obtain⟨k,b,f,g,l,i⟩:=A0 r n.1 a (by omega);rw[f,aa];dsimp only;rw[acx r k n g a.1,aa,acw (i d)]
theorem Sl(x:Nd)(p:ao)(a:x.1.length<=200)(b:p.length<=200):aj (nt<|bw x.1 p) (ae (cW (x.1,p,())) λ(y:Bool×ah)=>some y.1) (some true)=some (gone p x):=by
 rw[xr _ _ (by omega)<|by omega,aa,AP];unfold gone;cases decide (x.1=p)<;>rfl
theorem X4(l:List Nd)(n:Nd)(a:yU l)(c:n.1.length<=200):(∃i x,l[i]?=some x/\gone n.1 x=true/\(∀(j:Nat) y,j<i->l[j]?=some y->gone n.1 y=false)/\Loop (l5 (l,n,())) ((0,0,()),(),n.1,())=some (1,((i:Int),(i:Int),()),(),n.1,())) \/
  ((∀(i:Nat) x,l[i]?=some x->gone n.1 x=false)/\Loop (l5 (l,n,())) ((0,0,()),(),n.1,())=some (0,(0,(l.length:Int),()),(),n.1,())) :=
 pT (f:=l5 (l,n,())) l (λi=>((0,i,()),(),n.1,())) (λ_ x=>gone n.1 x) (λi x=>(1,((i:Int),(i:Int),()),(),n.1,())) (0,(0,(l.length:Int),()),(),n.1,()) (by have:=a.1;omega) (λi x b d e=>by
  unfold l5;dsimp only;rw[aq d,ab,aU (by omega) (by unfold len;omega),ab,ar b,aa,Sl _ _ (a.at b).1 c,aa,e];cases gone n.1 x<;>rfl) (by unfold l5;dsimp only;rw[aC,af])
theorem X5(l:List Nd)(n:Nd)(k:yU l)(o:n.1.length<=200)(i:Nat)(x:Nd)(b:l[i]?=some x)(p:gone n.1 x=true)(c:∀(j:Nat) y,j<i->l[j]?=some y->gone n.1 y=false) :
  ∃(w:Nat) (L:List Nd),Loop (oD) (((i:Int),aB IntKind.i64 (i:Int) 1,(),()),(),n.1,l,())=some (((w:Int),(l.length:Int),(),()),(),n.1,L,())/\L.length=l.length/\w<=l.length/\L.take w=mB l n.1:=by
 have hi:=aD b;have v:=k.1;have d:l.take i=(l.take<|i+1).filter (λx=>!gone n.1 x):=by
  rw[Ba,b,MS];have e:(l.take i).filter (λx=>!gone n.1 x)=l.take i:=Im.2 λy q=>by
   obtain⟨j,a⟩:=bR.1 q;rw[fA] at a;split at a
   .rw[c j y (by omega) a];rfl
   .cases a
  rw[e];simp[p]
 obtain⟨w,L,e,m,r,s⟩:=Ea (f:=oD) l (gone n.1) (λw j L=>((w,j,(),()),(),n.1,L,())) (λw L=>((w,(L.length:Int),(),()),(),n.1,L,())) (by omega) (λw j L x b g A a t c=>by
  unfold oD;dsimp only;have h:w<L.length:=by omega
  obtain⟨z,u⟩:∃z,L[w]?=some z:=⟨_,gH h⟩;rw[aq a,ab,aU (by omega) (by unfold len;omega),ab,ar g,aa,Sl _ _ (k.at b).1 o,aa,c];cases gone n.1 x with
  | true=>rfl
  | false =>
    rw[az,ab,aU (by omega) (by unfold len;omega),ab,ar u,aa,aa,aa,aa,t,gD];rfl) (λw L=>by
  unfold oD;dsimp only;rw[aC,af];rfl) l.length i (i+1) l (by omega) (by omega) (by omega) rfl d rfl
 refine⟨w,L,?_,m,r,s⟩;rw[aK<|by omega,e,m]
theorem Sn{l:List Nd}(i:Ord l){n x:Nd}{k:Nat}(f:l[k]?=some x)(e:x.1=n.1):l.filter (λx=>!decide (x.1=n.1))=l.take k++l.drop (k+1)/\sL (l.take k++l.drop (k+1)) n=l.take k++[n]++l.drop (k+1):=by
 have t:=aD f;have c:key x=parts n.1:=by unfold key;rw[e]
 have h:∀(j:Nat) (y:Nd),j<k->l[j]?=some y->cmp y n.1<0:=λj y d a=>by
  have:=i j k y x d a f;rw[c] at this;exact this
 have m:∀(j:Nat) (y:Nd),k<j->l[j]?=some y->¬cmp y n.1<0:=λj y d a q=>by
  have:=i k j x y d f a;rw[c] at this;have:=rn this q;rw[mc] at this;omega
 have b:(l.take k).length=k:=by rw[fT];omega
 constructor
 .refine filter_one f (by rw[eu e];rfl) λj y d a=>?_;rw[cU];rfl;intro p;have u:=Kc p;rcases tr j k with g|g
  .have:=h j y g a;omega
  .have o:key x=key y:=by rw[c];unfold key;rw[p]
   have:=i k j x y (by omega) f a;rw[o,mc] at this;omega
 .obtain⟨r,s⟩:=takeWhile_eq (l:=l.take k++l.drop (k+1)) (k:=k) (P:=λx=>decide (cmp x n.1<0)) (by rw[gI,b];omega) (λj y d a=>by
   rw[Og<|by omega,fA,aV d] at a;exact eu (h j y d a)) (λy a=>by
   rw[Ik<|by omega,b,VB,mF] at a;exact cU (m _ y (by omega) a))
  unfold sL;rw[r,s,CK b,CI b];simp
theorem X6{a:Type}{l:List a}{k:Nat}(b:k<l.length)(n:a):l.set k n=l.take k++[n]++l.drop (k+1):=by
 rw[acY,aV b];simp
theorem Gy(l:List Nd)(n:Nd)(m:yU l)(J:Sm n):rk (l,n,())=some ((bz l n).1,(bz l n).2,()):=by
 obtain⟨e,K,D⟩:=pv l m;have o:=J.1;unfold rk;dsimp only;rw[K,aa,We n (by omega),aa];dsimp only;by_cases c:¬Valid l\/eS n=false
 .have g:bz l n=([],1):=by unfold bz;rw[aV c]
  rw[g];have:aj (nt<|nt<|aZ e 0) (some<|nt<|eS n) (some true)=some true:=by
   rcases c with h|h
   .rw[show aZ e 0=false by unfold aZ;exact cU λs=>h (D.1 s)];rfl
   .rw[h];cases nt (nt<|aZ e 0)<;>rfl
  rw[this,aa,ab]
 .have hv:Valid l:=by
   by_cases h:Valid l
   .exact h
   .exact absurd (.inl h) c
  have M:eS n=true:=by
   cases h:eS n with
   | true=>rfl
   | false=>exact absurd (.inr h) c
  obtain rfl:=D.2 hv;rw[M];have:aj (nt<|nt<|aZ 0 0) (some<|nt true) (some true)=some false:=rfl;rw[this,aa,af,pt _ (by omega),aa];dsimp only;obtain⟨d,N,O⟩:=Wf l (bc n.1).1 m (by have:=Ke n.1;omega);rw[N,aa];dsimp only;by_cases v:(¬((bc n.1).1≠[]/\∀x∈l,x.1≠(bc n.1).1))/\(¬((bc n.1).1≠[]/\∀x∈l,x.1=(bc n.1).1->x.2.1≠2))/\d=0
  .obtain⟨P,Q,B⟩:=v;subst B;have g:bz l n=(let r:=if(∃x∈l,x.1=n.1/\x.2.1=2)/\n.2.1=2 then l.filter (λx=>!decide (x.1=n.1)) else mB l n.1
     if 64<=r.length then([],5) else(sL r n,0)):=by
    unfold bz;rw[aX c,aX P,aX Q]
   rw[show nt (aZ 0 0)=false by rfl,af];obtain⟨k,b,E,p2,p3,R⟩:=A0 l n.1 m (by omega);have p:=R hv.ord;rw[E,aa];dsimp only;obtain⟨z,S,F⟩:∃z,aj b (ae (idx l (k:Int)) λ(y:Nd)=>some (aZ y.2.1 2)) (some false)=some z/\(aj z (aZ n.2.1 2) false=true↔((∃x∈l,x.1=n.1/\x.2.1=2)/\n.2.1=2)):=by
    cases b with
    | false =>
      refine⟨false,rfl,?_⟩;rw[af];exact⟨λh=>(by cases h),λ⟨⟨x,hx,e,_⟩,_⟩=>absurd e (p.no rfl x hx)⟩
    | true =>
      obtain⟨x,hx,e⟩:=p.is rfl;refine⟨aZ x.2.1 2,by rw[ab,ar hx,aa],?_⟩;rw[j6,dv];unfold aZ;rw[nE,nE];refine⟨λh=>⟨⟨x,eF hx,e,h.1⟩,h.2⟩,λ⟨⟨y,hy,T,C⟩,U⟩=>?_⟩;have:=hv.ord.uniq (eF hx) hy (by rw[e,T]);subst this;exact⟨C,U⟩
   rw[S,aa];by_cases f:(∃x∈l,x.1=n.1/\x.2.1=2)/\n.2.1=2
   .rw[F.2 f,ab];have A:b=true:=by
     cases b with
     | true=>rfl
     | false=>obtain⟨⟨x,hx,e,_⟩,_⟩:=f;exact absurd e (p.no rfl x hx)
    obtain⟨x,hx,e⟩:=p.is A;have V:=aD hx;rw[lO (by have:=m.1;omega),ab,aU (by omega) (by unfold len;omega),ab,ar hx,aa,aa,aa,gD];obtain⟨W,X⟩:=Sn hv.ord hx e;have G:=hv.few;rw[aV f,W] at g;have a:¬64<=(l.take k++l.drop (k+1)).length:=by simp;omega
    rw[g];simp only[a,pV];rw[X,X6 V]
   .have Y:aj z (aZ n.2.1 2) false=false:=by
     cases h:aj z (aZ n.2.1 2) false with
     | false=>rfl
     | true=>exact absurd (F.1 h) f
    rw[aX f] at g;rw[Y,af,aa];dsimp only;rw[show nt (aZ 0 0)=false by rfl,af,lO (by have:=m.1;omega),ab];rcases X4 l n m o with ⟨i,x,hx,v,A,h⟩|⟨A,h⟩
    .obtain⟨w,L,Z,w2,w3,H⟩:=X5 l n m o i x hx v A;rw[h,aa];dsimp only;rw[eC,af,show aZ (i:Int) (-1)=false by unfold aZ;exact cU (by omega),af,Z,aa];dsimp only;rw[aP (by omega) (by unfold len;omega)<|qJ _,ab,Eb L w (by omega),aP (qJ _) (by omega) (by omega),ab,zX L w (by omega),H];have hlen:(mB l n.1).length=w:=by rw[<-H,fT];omega
     refine s9 (Sk (mB l n.1) n (m.filter _) (hv.ord.filter _) o (minus (w:Int) 0)<|by rw[hlen];unfold minus;omega) ?_;rw[g];by_cases a:64<=(mB l n.1).length
     .rw[aV a];simp only[a,kQ]
     .rw[aX a];simp only[a,pV]
    .have hr:mB l n.1=l:=Im.2 λx hx=>by
      obtain⟨j,hj⟩:=bR.1 hx;rw[A j x hj];rfl
     rw[hr] at g;rw[h,aa];dsimp only;rw[bV,ab,show aZ (-1) (-1)=true by rfl,ab];have I:=Sk l n m hv.ord o (len l) rfl;rw[E] at I;refine s9 I ?_;rw[g];by_cases a:64<=l.length
     .rw[aV a];simp only[a,kQ]
     .rw[aX a];simp only[a,pV]
  .rcases O hv.ord with ⟨s,t⟩|⟨s,⟨f,t⟩|⟨x,hx,q,⟨u,t⟩|⟨u,t⟩⟩⟩
   .exact absurd ⟨λh=>h.1 s,λh=>h.1 s,t⟩ v
   .subst t;have g:bz l n=([],3):=by unfold bz;rw[aX c,aV ⟨s,f⟩]
    rw[g];rfl
   .exact absurd ⟨λh=>h.2 x hx q,λh=>h.2 x hx q u,t⟩ v
   .subst t;have g:bz l n=([],12):=by
     unfold bz;rw[aX c,aX (λh=>h.2 x hx q),aV ⟨s,λy hy e=>by
      have:=hv.ord.uniq hx hy (by rw[q,e]);subst this;exact u⟩]
    rw[g];rfl
def gE(l:List Nd)(p:ao)(b:Bool):List Nd:=l.filter λx=>!ca (parts x.1) (parts p)&&(!b||!decide (x.1=p))
theorem zY(l:List Nd)(p:ao)(b:Bool)(d:yU l)(g:p.length<=4096):ja (l,p,b,())=some (gE l p b,()):=by
 unfold ja;have q:=d.1;have c:∀m:List Nd,m.flatMap (λx=>if(!ca (parts x.1) (parts p)&&(!b||!decide (x.1=p)))=true then [x] else [])=gE m p b:=by
  intro m;unfold gE;induction m with
  | nil=>rfl
  | cons a r j =>
    rw[Y7,j,List.filter_cons];split<;>simp
 have h:=RO (f:=iv (l,p,b,())) l (λa i=>(((),i,()),a,())) (λx=>if(!ca (parts x.1) (parts p)&&(!b||!decide (x.1=p)))=true then [x] else []) (((),(l.length:Int),()),gE l p b,()) (by omega) (λi x e k n=>by
  unfold iv;dsimp only;have hlen:((l.take i).flatMap λx=>if(!ca (parts x.1) (parts p)&&(!b||!decide (x.1=p)))=true then [x] else []).length<=4096:=by
   rw[c];unfold gE;refine fM (MN _ _) ?_;rw[fT];omega
  rw[aq k,ab,ar e,aa,PI _ _ (by have:=(d.at e).1;omega) g,aa,aa,aa,n,bP (by simp only[Oi];omega)];dsimp only;rw[AP];cases ca (parts x.1) (parts p)<;>cases b<;>cases decide (x.1=p)<;>simp[aj,nt,ae,dK,app]) (by
  unfold iv;dsimp only;rw[aC,af,c];rfl)
 have o:Loop (iv (l,p,b,())) (((),(0:Int),()),([]:List Nd),())=some (((),(l.length:Int),()),gE l p b,()):=h;rw[o,aa]
theorem L7(l:List Nd)(p:ao):gE l p true=mB l p:=by
 unfold gE mB
 congr 1
 funext x;unfold gone;cases ca (parts x.1) (parts p)<;>cases decide (x.1=p)<;>rfl
theorem Sp(l r:List Nd)(n:Nd)(g:yU r)(m:n.1.length<=200):∃k:Nat,k<=r.length/\Loop (kt (l,n,()) ((r,()),())) (((0:Int),()),())=some (((k:Int),()),())/\sL r n=r.take k++[n]++r.drop k:=by
 have t:=g.1;rcases pT (f:=kt (l,n,()) ((r,()),())) r (λi=>((i,()),())) (λ_ x=>!decide (cmp x n.1<0)) (λi _=>(((i:Int),()),())) (((r.length:Int),()),()) (by omega) (λi x b o p=>by
  unfold kt;dsimp only;rw[aq o,ab,ar b,aa,zS _ _ (by have:=(g.at b).1;omega) (by omega),aa,p];dsimp only;unfold cmp ba;cases decide (cmpL (parts x.1) (parts n.1)<0)<;>rfl) (by
  unfold kt;dsimp only;rw[aC,af];rfl) with ⟨i,x,b,q,s,h⟩|⟨m,h⟩
 .refine⟨i,by have:=aD b;omega,h,?_⟩;obtain⟨d,e⟩:=takeWhile_eq (l:=r) (k:=i) (P:=λx=>decide (cmp x n.1<0)) (by have:=aD b;omega) (λj y c a=>by
   have:=s j y c a;simpa using this) (λy a=>by
   rw[b] at a;obtain rfl:=aG a;simpa using q)
  unfold sL;rw[d,e];simp
 .refine⟨r.length,bZ _,h,?_⟩;obtain⟨d,e⟩:=takeWhile_eq (l:=r) (k:=r.length) (P:=λx=>decide (cmp x n.1<0)) (bZ _) (λj y c a=>by
   have:=m j y a;simpa using this) (λy a=>by
   have:=aD a;omega)
  unfold sL;rw[d,e];simp
theorem zZ(l r:List Nd)(n:Nd)(c:yU r)(e:n.1.length<=200) :
  aj (da 64<|len r) (some (([]:List Nd),(5:Int),())) (ae (Loop (kt (l,n,()) ((r,()),())) (((0:Int),()),())) λ(b:(Int×ah)×ah)=>aj (inside 0 b.1.1<|len r)
   (aj (fits<|plus (len ([]:List Nd))<|len<|sub r 0<|minus b.1.1 0)
   (aj (fits<|plus (len<|app ([]:List Nd)<|sub r 0<|minus b.1.1 0)<|len [n])
   (aj (inside b.1.1 (len r)<|len r)
   (aj (fits<|plus (len<|app (app ([]:List Nd)<|sub r 0<|minus b.1.1 0) [n])<|len<|sub r b.1.1<|minus (len r) b.1.1)
   (some (app (app (app ([]:List Nd)<|sub r 0<|minus b.1.1 0) [n])<|sub r b.1.1<|minus (len r) b.1.1,(0:Int),()))
   none) none) none) none) none)=some (if 64<=r.length then([],5,()) else(sL r n,0,())):=by
 have q:=c.1;rw[tS];by_cases h:64<=r.length
 .rw[eu<|by unfold len;omega,ab,aV h]
 .rw[cU<|by unfold len;omega,af,aX h];obtain⟨k,d,f,g⟩:=Sp l r n c e;rw[f,aa];dsimp only;have i:inside 0 (k:Int) (len r)=true:=nq (a:=0) (mK _) d;have j:inside (k:Int) (len r) (len r)=true:=aP (by omega) (by unfold len;omega) (qJ _);rw[i,ab,iC,oN r k d,j];have m:fits (plus (len ([]:List Nd))<|len<|r.take k)=true:=bP (by rw[fT];simp;omega);have o:fits (plus (len<|app ([]:List Nd)<|r.take k)<|len [n])=true:=bP (by rw[x5,sd,fT];simp;omega);have p:fits (plus (len<|app (app ([]:List Nd)<|r.take k) [n])<|len<|r.drop k)=true:=bP (by rw[x5,x5,sd,gI,fT,j8];simp;omega);rw[m,o,p,ab,ab,ab,ab,g];rfl
theorem z6(l:List Nd)(n:Nd)(k:yU l)(G:Sm n):ng (l,n,())=some ((bz l n).1,(bz l n).2,()):=by
 obtain⟨e,L,H⟩:=rr l k;have q:=G.1;have W:=k.1;unfold ng;dsimp only;rw[L,aa,vJ n (by omega) (by have:=G.2.1;omega),aa];dsimp only;by_cases c:¬Valid l\/eS n=false
 .have g:bz l n=([],1):=by unfold bz;rw[aV c]
  rw[g];have:aj (nt<|nt e) (some<|nt<|eS n) (some true)=some true:=by
   rcases c with h|h
   .rw[show e=false by
     cases e with
     | false=>rfl
     | true=>exact absurd (H.1 rfl) h]
    rfl
   .rw[h];cases nt (nt e)<;>rfl
  rw[this,aa,ab]
 .have hv:Valid l:=by
   by_cases h:Valid l
   .exact h
   .exact absurd (.inl h) c
  have I:eS n=true:=by
   cases h:eS n with
   | true=>rfl
   | false=>exact absurd (.inr h) c
  obtain rfl:=H.2 hv;rw[I];have:aj (nt<|nt true) (some<|nt true) (some true)=some false:=rfl;rw[this,aa,af,tR _ (by omega),aa];dsimp only;obtain⟨s,M,J⟩:∃s,aj (nt<|bw (bc n.1).1 []) (ae (gP (l,(bc n.1).1,())) λ(y:Int×ah)=>some (ba y.1 0)) (some false)=some s/\(s=true↔((bc n.1).1≠[]/\∀x∈l,x.1≠(bc n.1).1)):=by
   by_cases v:(bc n.1).1=[]
   .refine⟨false,by rw[v];rfl,λh=>(by cases h),λh=>absurd v h.1⟩
   .rw[bq v,az,ab];rcases zW l (bc n.1).1 k with ⟨i,x,o,j,h⟩|⟨m,h⟩
    .refine⟨false,by rw[h,aa,aA (by omega)],λh=>(by cases h),λh=>absurd j (h.2 x<|eF o)⟩
    .exact⟨true,by rw[h,aa];rfl,λ_=>⟨v,m⟩,λ_=>rfl⟩
  rw[M,aa];by_cases t:(bc n.1).1≠[]/\∀x∈l,x.1≠(bc n.1).1
  .have g:bz l n=([],3):=by unfold bz;rw[aX c,aV t]
   rw[J.2 t,g];rfl
  .have:s=false:=by
    cases s with
    | false=>rfl
    | true=>exact absurd (J.1 rfl) t
   rw[this,af];obtain⟨d,N,O,P⟩:=Kd l (bc n.1).1 k;rw[N,aa];dsimp only;by_cases u:(bc n.1).1≠[]/\∀x∈l,x.1=(bc n.1).1->x.2.1≠2
   .have g:bz l n=([],12):=by unfold bz;rw[aX c,aX t,aV u]
    have:d=false:=by
     cases d with
     | false=>rfl
     | true =>
       rcases O rfl with h|⟨x,o,w,z⟩
       .exact absurd h u.1
       .exact absurd z (u.2 x o w)
    rw[this,g];rfl
   .have:d=true:=by
     cases d with
     | true=>rfl
     | false=>exact absurd (P hv.ord rfl) u
    rw[this,show nt true=false by rfl,af];have g:bz l n=(let r:=if(∃x∈l,x.1=n.1/\x.2.1=2)/\n.2.1=2 then l.filter (λx=>!decide (x.1=n.1)) else mB l n.1
      if 64<=r.length then([],5) else(sL r n,0)):=by
     unfold bz;rw[aX c,aX t,aX u]
    rcases zW l n.1 k with ⟨i,x,o,j,h⟩|⟨m,h⟩
    .have hi:=aD o;have p:=eF o;rw[h,aa];dsimp only;rw[dc<|by omega,ab,ar o,aa,aa];by_cases f:x.2.1=2/\n.2.1=2
     .obtain⟨K,X⟩:=Sn hv.ord o j;rw[aV<|show((∃x∈l,x.1=n.1/\x.2.1=2)/\n.2.1=2) from⟨⟨x,p,j,f.1⟩,f.2⟩,K] at g;have Q:inside 0 (i:Int) (len l)=true:=nq (a:=0) (mK _) (by omega);have R:inside ((i+1:Nat):Int) (len l) (len l)=true:=aP (by omega) (by unfold len;omega) (qJ _);rw[aT f.1,aT f.2,ab,ab,Q,ab,iC,aK (by omega),R,oN l (i+1) (by omega)];have S:fits (plus (len ([]:List Nd))<|len<|l.take i)=true:=bP (by rw[fT];simp;omega);have T:fits (plus (len<|app ([]:List Nd)<|l.take i)<|len<|l.drop<|i+1)=true:=bP (by rw[x5,sd,fT,j8];omega);rw[S,T,ab,ab,ab,aa];dsimp only;have U:yU (l.take i++l.drop (i+1)):=by rw[<-K];exact k.filter _
      refine s9 (zZ l (l.take i++l.drop (i+1)) n U q) ?_;rw[g];by_cases b:64<=(l.take i++l.drop (i+1)).length
      .rw[aV b];simp only[b,kQ]
      .rw[aX b];simp only[b,pV]
     .have V:aj (aZ x.2.1 2) (aZ n.2.1 2) false=false:=by
       unfold aZ;by_cases A:x.2.1=2
       .rw[eu A,ab];exact cU λB=>f ⟨A,B⟩
       .rw[cU A,af]
      rw[aX (show ¬((∃x∈l,x.1=n.1/\x.2.1=2)/\n.2.1=2) from λh=>by
       obtain⟨⟨y,C,D,E⟩,B⟩:=h;have:=hv.ord.uniq p C (by rw[j,D]);subst this;exact f ⟨E,B⟩)] at g
      rw[V,af,zY l n.1 true k (by omega),L7];simp only[aa,ab];refine s9 (zZ l (mB l n.1) n (k.filter _) q) ?_;rw[g];by_cases b:64<=(mB l n.1).length
      .rw[aV b];simp only[b,kQ]
      .rw[aX b];simp only[b,pV]
    .have F:¬((∃x∈l,x.1=n.1/\x.2.1=2)/\n.2.1=2):=λ⟨⟨y,C,D,_⟩,_⟩=>m y C D;rw[aX F,UR hv (Wg I) m] at g;rw[h,aa];dsimp only;rw[show da 0 (-1)=false by rfl];simp only[aa,af];refine s9 (zZ l l n k q) ?_;rw[g];by_cases b:64<=l.length
     .rw[aV b];simp only[b,kQ]
     .rw[aX b];simp only[b,pV]
def aaP:Nd:=([],0,0,[],[],())
def findF(l:List Nd)(p:ao):Nd×Bool×ah:=match l.find? λx=>decide (x.1=p) with
 | some x=>(x,true,())
 | none=>(aaP,false,())
theorem Ki{l:List Nd}{p:ao}(h:∀x∈l,x.1≠p):findF l p=(aaP,false,()):=by
 unfold findF;rw[List.find?_eq_none.2 λx a=>by simp[h x a]]
theorem Cx{l:List Nd}(c:Ord l){p:ao}{x:Nd}(b:x∈l)(e:x.1=p):findF l p=(x,true,()):=by
 unfold findF;cases h:l.find? λx=>decide (x.1=p) with
 | none=>have:=List.find?_eq_none.1 h x b;simp[e] at this
 | some y =>
   have a:=Zd h;have d:=YO h;have a:y.1=p:=by simpa using a
   have:=c.uniq b d (by rw[e,a]);subst this;rfl
theorem X7(l:List Nd)(p:ao)(d:yU l)(g:p.length<=4096)(c:Valid l):vz (l,p,())=some (findF l p):=by
 obtain⟨e,h,i⟩:=pv l d;obtain rfl:=i.2 c;obtain⟨k,b,j,n,o,m⟩:=A0 l p d g;have a:=m c.ord;unfold vz;dsimp only;rw[h,aa];dsimp only;rw[show nt (aZ 0 0)=false by rfl,af,j,aa];dsimp only;cases b with
 | false=>rw[az,ab,Ki (a.no rfl)];rfl
 | true =>
   obtain⟨x,f,e⟩:=a.is rfl;rw[aE,af,ar f,aa,Cx c.ord (eF f) e]
def acy:List Nd->Bool
 | a::b::r=>decide (cmpL (key a) (key b)<0)&&acy (b::r)
 | _=>true
theorem aaQ:∀{l:List Nd},acy l=true->Ord l:=by
 intro l h;refine Kf ?_;induction l with
 | nil=>intro k x y c;simp at c
 | cons a r e =>
   cases r with
   | nil=>intro k x y c d;simp at d
   | cons b r =>
     simp only[acy,dv,nE] at h;intro k x y c d;cases k with
     | zero =>
       obtain rfl:a=x:=by simpa using c
       obtain rfl:b=y:=by simpa using d
       exact h.1
     | succ k=>exact e h.2 k x y c d
def Kj(l:List Nd):Bool:=decide (l.length<=64)&&acy l&&l.all eS&&l.all λx=>decide ((bc x.1).1=[])||l.any λy=>decide (y.1=(bc x.1).1)&&decide (y.2.1=2)
theorem yc{l:List Nd}(h:Kj l=true):Valid l:=by
 unfold Kj at h;simp only[dv,nE] at h;refine⟨h.1.1.1,aaQ h.1.1.2,λx a=>sb.1 h.1.2 x a,λx a=>?_⟩;have:=sb.1 h.2 x a;simp only[wJ,nE,Za,dv] at this;exact this
def nD:Nd:=([100],2,493,[],[],())
def nA:Nd:=([100,47,97],1,420,[120],[],())
theorem US:Kj []=true/\Kj [nD]=true/\Kj [nD,nA]=true:=by decide +kernel
theorem BF(l:List Nd)(a:l.length<=4294967296):tD (l,l,())=some (true,()):=by
 unfold tD;dsimp only;rw[gx,aE,af];rcases pT (f:=oW (l,l,())) l (λi=>((false,i,()),())) (λ_ _=>false) (λi x=>(1,(false,(i:Int),()),())) ((0:Nat),(false,(l.length:Int),()),()) a (λi x b c d=>by
  unfold oW;dsimp only;rw[aq c,ab,ab,ar b,aa,aa,jo,jo,jo,gx,gx,d];rfl) (by unfold oW;dsimp only;rw[aC,af,af]) with ⟨i,x,_,e,_⟩|⟨g,h⟩
 .cases e
 .rw[h];rfl
set_option synthInstance.maxHeartbeats 200000 in
set_option synthInstance.maxSize 4000 in
instance ajb:DecidableEq Nd:=inferInstance
theorem NT(a:Nd)(r:List Nd)(n:Nd):sL (a::r) n=if cmp a n.1<0 then a::sL r n else n::a::r:=by
 unfold sL;by_cases h:cmp a n.1<0
 .rw[aV h,Ir,FU];simp[h]
 .rw[aX h,Ir,FU];simp[h]
theorem sM{r:List Nd}{n x:Nd}:x∈sL r n↔x=n\/x∈r:=by
 induction r with
 | nil=>simp[sL]
 | cons a r b =>
   rw[NT];split
   .rw[gd,b,gd];constructor
    .rintro(h|h|h)
     .exact .inr (.inl h)
     .exact .inl h
     .exact .inr (.inr h)
    .rintro(h|h|h)
     .exact .inr (.inl h)
     .exact .inl h
     .exact .inr (.inr h)
   .rw[gd]
theorem aaR(r:List Nd)(n:Nd):(sL r n).length=r.length+1:=by
 unfold sL;rw[gI,dh,<-xF,<-gI,Lg]
theorem FC{l:List Nd}:Ord l↔l.Pairwise λx y=>cmpL (key x) (key y)<0:=by
 constructor
 .intro h;rw[ED];intro i j b c a;exact h i j _ _ a (gH b) (gH c)
 .intro h i j x y a d e;rw[ED] at h;obtain⟨f,g⟩:=fU.1 d;obtain⟨k,m⟩:=fU.1 e;rw[<-g,<-m];exact h i j f k a
theorem aaS{r:List Nd}{n:Nd}(c:Ord r)(d:∀x∈r,x.1≠n.1):Ord (sL r n):=by
 rw[FC] at c⊢;induction r with
 | nil=>simp[sL]
 | cons a r g =>
   rw[Iu] at c;rw[NT];split
   .rename_i h;refine Iu.2 ⟨λy b=>?_,g c.2 λx i=>d x (by simp[i])⟩;rcases sM.1 b with rfl|b
    .exact h
    .exact c.1 y b
   .rename_i h;have f:cmpL (key n) (key a)<0:=by
     have j:cmp a n.1≠0:=λe=>d a (by simp) (Si e);have k:cmpL (key n) (key a)=- cmpL (key a) (key n):=aao _ _;have l:cmp a n.1=cmpL (key a) (key n):=rfl;omega
    refine Iu.2 ⟨λy b=>?_,Iu.2 c⟩;rcases gd.1 b with rfl|b
    .exact f
    .exact rn f (c.1 y b)
theorem Kk{x y:Nd}{p:ao}(b:(bc x.1).1≠[])(e:y.1=(bc x.1).1)(h:ca (parts y.1) (parts p)=true):ca (parts x.1) (parts p)=true:=by
 have a:=uU b;rw[<-e] at a;unfold ca at h⊢;obtain⟨d,c⟩:=kH h;refine eu ⟨?_,?_⟩
 .rw[a,gI];omega
 .rw[a,Th (by omega),c]
theorem Cy{x:Nd}(b:(bc x.1).1≠[]):ca (parts x.1) (parts (bc x.1).1)=true:=by
 have a:=uU b;unfold ca;refine eu ⟨?_,?_⟩
 .rw[a,gI];simp
 .rw[a];simp
def Ie(l:List Nd)(n:Nd)(r:List Nd):Prop :=
 (((∃x∈l,x.1=n.1/\x.2.1=2)/\n.2.1=2)/\r=l.filter λx=>!decide (x.1=n.1))\/((¬((∃x∈l,x.1=n.1/\x.2.1=2)/\n.2.1=2))/\r=mB l n.1)
theorem Kl(l:List Nd)(n:Nd):((bz l n).1=[]/\(bz l n).2≠0) \/
  (Valid l/\eS n=true/\((bc n.1).1=[]\/∃x∈l,x.1=(bc n.1).1/\x.2.1=2)/\∃r,Ie l n r/\r.length<64/\bz l n=(sL r n,0)):=by
 unfold bz;by_cases b:¬Valid l\/eS n=false
 .rw[aV b];exact .inl ⟨rfl,by decide⟩
 .rw[aX b];by_cases c:(bc n.1).1≠[]/\∀x∈l,x.1≠(bc n.1).1
  .rw[aV c];exact .inl ⟨rfl,by decide⟩
  .rw[aX c];by_cases f:(bc n.1).1≠[]/\∀x∈l,x.1=(bc n.1).1->x.2.1≠2
   .rw[aV f];exact .inl ⟨rfl,by decide⟩
   .rw[aX f];have hv:Valid l:=ML λh=>b (.inl h);have g:eS n=true:=by
     cases h:eS n with
     | true=>rfl
     | false=>exact absurd (.inr h) b
    have i:(bc n.1).1=[]\/∃x∈l,x.1=(bc n.1).1/\x.2.1=2:=by
     by_cases j:(bc n.1).1=[]
     .exact .inl j
     .right;refine ML λh=>f ⟨j,λx k e c=>h ⟨x,k,e,c⟩⟩
    by_cases d:(∃x∈l,x.1=n.1/\x.2.1=2)/\n.2.1=2
    .simp only[aV d];by_cases a:64<=(l.filter λx=>!decide (x.1=n.1)).length
     .rw[aV a];exact .inl ⟨rfl,by decide⟩
     .rw[aX a];exact .inr ⟨hv,g,i,_,.inl ⟨d,rfl⟩,by omega,rfl⟩
    .simp only[aX d];by_cases a:64<=(mB l n.1).length
     .rw[aV a];exact .inl ⟨rfl,by decide⟩
     .rw[aX a];exact .inr ⟨hv,g,i,_,.inr ⟨d,rfl⟩,by omega,rfl⟩
theorem Ie.sub{l r:List Nd}{n:Nd}(h:Ie l n r):(∀x∈r,x∈l/\x.1≠n.1)/\∃P,r=l.filter P:=by
 rcases h with ⟨_,rfl⟩|⟨_,rfl⟩
 .refine⟨λx a=>?_,_,rfl⟩;have:=vX.1 a;simpa using this
 .refine⟨λx a=>?_,_,rfl⟩;have:=vX.1 a;unfold gone at this;simp at this;exact⟨this.1,this.2.1⟩
theorem NU{l r:List Nd}{n:Nd}(o:Valid l)(s:eS n=true)(t:(bc n.1).1=[]\/∃x∈l,x.1=(bc n.1).1/\x.2.1=2)(m:Ie l n r)(u:r.length<64):Valid (sL r n):=by
 obtain⟨c,P,v⟩:=m.sub;have w:Ord r:=by rw[v];exact o.ord.filter P
 refine⟨by rw[aaR];omega,aaS w λx d=>(c x d).2,λx d=>?_,λx d=>?_⟩
 .rcases sM.1 d with rfl|d
  .exact s
  .exact o.may x (c x d).1
 .rcases sM.1 d with rfl|d
  ·
   rcases t with h|⟨y,j,b,f⟩
   .exact .inl h
   .by_cases i:(bc x.1).1=[]
    .exact .inl i
    .right;refine⟨y,sM.2 (.inr ?_),b,f⟩;have a:=Cy i;rw[<-b] at a;have hlen:(parts y.1).length<(parts x.1).length:=by
      unfold ca at a;exact(kH a).1
     have k:y.1≠x.1:=λe=>by rw[e] at hlen;omega
     have p:ca (parts y.1) (parts x.1)=false:=by
      unfold ca;exact cU λh=>by omega
     rcases m with ⟨_,rfl⟩|⟨_,rfl⟩
     .exact vX.2 ⟨j,by simp[k]⟩
     .exact vX.2 ⟨j,by unfold gone;simp[k,p]⟩
  .rcases o.up x (c x d).1 with h|⟨y,j,b,f⟩
   .exact .inl h
   .by_cases i:(bc x.1).1=[]
    .exact .inl i
    .right;have a:=Cy i;by_cases e:y.1=n.1
     .rcases m with ⟨z,rfl⟩|⟨_,rfl⟩
      .exact⟨n,sM.2 (.inl rfl),by rw[<-e,b],z.2⟩
      .have:=(vX.1 d).2;rw[<-b,e] at a;unfold gone at this;rw[a] at this;simp at this
     .refine⟨y,sM.2 (.inr ?_),b,f⟩;rcases m with ⟨_,rfl⟩|⟨_,rfl⟩
      .exact vX.2 ⟨j,by simp[e]⟩
      .refine vX.2 ⟨j,?_⟩;have g:=(vX.1 d).2;unfold gone at g⊢;cases q:ca (parts y.1) (parts n.1) with
       | false=>simp[e]
       | true =>
         rw[Kk i b q] at g;simp at g
def Km(a:List ao):Prop:=∀x∈a,47∉x/\x≠[]
def fw(m:Int)(p:ao):Nd:=(p,(2:Int),m,([]:ao),([]:ao),())
def dL(a:List ao)(j:Nat):ao:=aF (a.take<|j+1)
def om(a:List ao)(k:Nat):List Nd:=(List.range k).map λj=>fw 0 (dL a j)
theorem Sq(a:List ao)(k:Nat):om a (k+1)=om a k++[fw 0<|dL a k]:=by
 unfold om;rw[List.range_succ,xE];rfl
theorem uV(a:List ao)(k:Nat):(om a k).length=k:=by unfold om;rw[sR,Y6]
theorem pw{a:List ao}(h:Km a){i:Nat}{x:ao}(d:a[i]?=some x):oP (aF<|a.take i) x=dL a i:=by
 have b:a.take (i+1)=a.take i++[x]:=by rw[Ba,d];rfl
 have:=J2 [x] (a.take i) (λy c=>by
  rw[<-b] at c;exact h y (EE c))
 unfold dL;rw[b];exact this
theorem z7:∀(ns:List ao) (k:Nat),(aF<|ns.take k).length<=(aF ns).length:=by
 intro ns;induction ns with
 | nil=>intro k;simp
 | cons x r a =>
   intro k;cases k with
   | zero=>simp[aF]
   | succ k =>
     rw[Vp];cases r with
     | nil=>simp
     | cons y r =>
       cases k with
       | zero=>simp[aF]
       | succ k =>
         have:=a (k+1);rw[Vp] at this⊢;simp only[aF,gI,dh] at this⊢;omega
theorem BG:∀(ns:List ao) (x:ao),x∈ns->x.length<=(aF ns).length:=by
 intro ns;induction ns with
 | nil=>intro x c;cases c
 | cons a r d =>
   intro x c;cases r with
   | nil =>
     rw[EF] at c;subst c;simp[aF]
   | cons b r =>
     simp only[aF,gI,dh];rcases gd.1 c with rfl|c
     .omega
     .have:=d x c;omega
def FD(a:List ao):Prop:=Km a/\a.length<=16/\(aF a).length<=200
theorem FD.pa{a:List ao}(h:FD a)(k:Nat):(aF<|a.take k).length<=200:=fM (z7 a k) h.2.2
theorem FD.Ig{a:List ao}(h:FD a){x:ao}(b:x∈a):x.length<=200:=fM (BG a x b) h.2.2
theorem FD.take{a:List ao}(h:FD a)(k:Nat):FD (a.take k):=⟨λx b=>h.1 x (EE b),by rw[fT];have:=h.2.1;omega,h.pa k⟩
theorem Gz(a:List ao)(h:FD a):Loop (gC (a,())) (((),([]:ao),(0:Int),()),([]:List Nd),()) =
  some (((),aF a,(a.length:Int),()),om a a.length,()):=by
 obtain⟨t,e,g,_⟩:=AV (f:=gC (a,())) a (λ(s:ao×List Nd) i=>(((),s.1,i,()),s.2,())) (λs i x=>(oP s.1 x,s.2++[fw 0<|oP s.1 x])) (λs=>(((),s.1,(a.length:Int),()),s.2,()))
  (λs i=>s.1=aF (a.take i)/\s.2=om a i) (by have:=h.2.1;omega) (λs i x d j b c=>by
   have k:=h.Ig (eF d);have l:=h.pa i;have hlen:=uV a i;have m:=h.2.1;constructor
   .unfold gC;dsimp only;rw[aq j,ab,ar d,aa,Fx _ _ (by rw[c.1];omega) (by omega),aa,bP (by rw[c.2,hlen];simp only[dh,eG];omega),ab,b];rfl
   .dsimp only;rw[c.1,c.2,pw h.1 d,Sq];exact⟨rfl,rfl⟩) (λs _=>by
   unfold gC;dsimp only;rw[aC,af];rfl) ([],[]) ⟨by simp[aF],rfl⟩
 rw[g,e.1,e.2,wI]
def preB(a:List ao)(k:Nat):Bool:=(List.range k).all λj=>eS (fw 0<|dL a j)
theorem Kn{a:List ao}(h:Km a){j:Nat}(d:j<a.length):(bc<|dL a j).1=aF (a.take j):=by
 have b:a.take (j+1)≠[]:=by
  intro e;have:=congrArg List.length e;rw[fT,eG] at this;omega
 unfold dL;rw[zT (λx c=>h x (EE c)) b];dsimp only;rw[Qn,fT,Bj]
 congr 2
 omega
theorem uW{a:List ao}(h:Km a)(j:Nat):parts (dL a j)=a.take (j+1):=jE _ λx b=>h x (EE b)
theorem ru{a:List ao}(h:Km a):aF a=[]↔a=[]:=by
 constructor
 .intro e;have:=jE a h;rw[e] at this;exact this.symm
 .rintro rfl;rfl
theorem UT{a:List ao}(h:FD a)(f:a≠[]){n:Nd}(p:n.1=aF a) :
  Valid (om a (a.length-1)++[n])↔(preB a (a.length-1)=true/\eS n=true):=by
 have v:0<a.length:=Iq.2 f;have d:∀(j:Nat) (x:Nd),(om a (a.length-1)++[n])[j]?=some x->x.1=dL a j/\j<a.length/\(j<a.length-1->x=fw 0 (dL a j)):=by
  intro j x b;rw[Oj,uV] at b;by_cases c:j<a.length-1
  .rw[aV c] at b;unfold om at b;rw[wH,Qo c] at b;obtain rfl:=aG b;exact⟨rfl,by omega,λ_=>rfl⟩
  .rw[aX c] at b;have:j-(a.length-1)=0:=by
    have:=aD b;simp at this;omega
   rw[this] at b;obtain rfl:=aG b;have g:j=a.length-1:=by omega
   refine⟨?_,by omega,λh=>absurd h c⟩;rw[p];unfold dL;rw[g,A8 (by omega)]
 constructor
 .intro m;refine⟨?_,m.may n (by simp)⟩;unfold preB;rw[sb];intro j c;rw[GN] at c;refine m.may _ (mI _ ?_);unfold om;exact se.2 ⟨j,GN.2 c,rfl⟩
 .rintro⟨k,q⟩;unfold preB at k;rw[sb] at k;refine⟨?_,?_,?_,?_⟩
  .rw[gI,uV];have:=h.2.1;simp;omega
  .intro i j x y r b s;obtain⟨l,o,_⟩:=d i x b;obtain⟨t,w,_⟩:=d j y s;unfold key;rw[l,t,uW h.1,uW h.1];have e:a.take (j+1)=a.take (i+1)++(a.take<|j+1).drop (i+1):=by
    have:=(vV (i+1)<|a.take<|j+1).symm
    rwa [Bj,pc (by omega)] at this
   rw[e,RM]
   .decide
   .intro u;have:=congrArg List.length u;rw[j8,fT] at this;simp at this;omega
  .intro x b;rcases ra.1 b with b|b
   .obtain⟨j,c,rfl⟩:=se.1 b;exact k j c
   .rw[EF] at b;subst b;exact q
  .intro x b;obtain⟨j,c⟩:=bR.1 b;obtain⟨l,o,_⟩:=d j x c;rw[l,Kn h.1 o];cases j with
   | zero=>left;rfl
   | succ j =>
     right;refine⟨fw 0<|dL a j,mI _ ?_,rfl,rfl⟩;unfold om;exact se.2 ⟨j,GN.2 (by omega),rfl⟩
theorem Ko{a:List ao}(h:FD a)(b:a≠[]){n:Nd}(f:n.1=aF a)(q:Sm n) :
  dW (n,())=some (preB a (a.length-1)&&eS n,()):=by
 have u:0<a.length:=Iq.2 b;have g:bc n.1=(aF a.dropLast,a.getLast b):=by rw[f];exact zT h.1 b
 have r:=h.pa (a.length-1);have i:a.dropLast=a.take (a.length-1):=Qn;have d:FD (a.take<|a.length-1):=h.take _;have k:parts (aF<|a.take<|a.length-1)=a.take (a.length-1):=jE _ d.1;have l:om (a.take<|a.length-1) (a.take<|a.length-1).length=om a (a.length-1):=by
  rw[fT,pc (by omega)];unfold om;apply Il;intro j m;rw[GN] at m;unfold dL;rw[Bj,pc (by omega)]
 unfold dW;dsimp only;rw[pt n.1 (by have:=q.1;omega),aa,g];dsimp only;rw[i,pJ _ (by omega),aa,k,Gz _ d,aa,l];dsimp only;have o:n.1≠[]:=by rw[f];exact λe=>b ((ru h.1).1 e)
 rw[bq o,az,ab,bP (by rw[uV];have:=h.2.1;simp only[dh,eG];omega),ab];have p:yU (om a (a.length-1)++[n]):=⟨by rw[gI,uV];have:=h.2.1;simp;omega,λx c=>by
  rcases ra.1 c with c|c
  .obtain⟨j,m,rfl⟩:=se.1 c;rw[GN] at m;exact⟨h.pa<|j+1,by simp[fw],by simp[fw]⟩
  .rw[EF] at c;subst c;exact q⟩
 obtain⟨e,s,t⟩:=pv _ p;rw[x5,s,aa];dsimp only;have hv:=UT h b f;rw[show aZ e 0=(preB a (a.length-1)&&eS n) by
  rw[EH,dv,<-hv,<-t];unfold aZ;simp]
theorem acz{n:Nd}(h:eS n=true):eS (fw 0 n.1)=true:=by
 unfold eS at h⊢;simp only[dv] at h⊢;exact⟨⟨⟨h.1.1.1,by simp[fw]⟩,by simp[fw]⟩,by simp[NQ,fw]⟩
theorem wq{a:List ao}(h:FD a):ky (aF a,())=some (preB a a.length&&decide (a≠[]),()):=by
 have f:parts (aF a)=a:=jE _ h.1;have g:=h.pa a.length;rw[wI] at g;unfold ky;dsimp only;rw[gV _<|by omega,aa,f];have key:∀(d k:Nat),k+d=a.length->(∀j,j<k->eS (fw 0<|dL a j)=true) ->
   ∃r,Loop (gj (a,())) ((false,aF<|a.take k,(k:Int),()),())=some r/\((r.1=0/\preB a a.length=true)\/(r.1=1/\r.2.1.1=false/\preB a a.length=false)):=by
  intro d;induction d with
  | zero =>
    intro k s b;obtain rfl:k=a.length:=by omega
    refine⟨(0,(false,aF<|a.take a.length,(a.length:Int),()),()),?_,.inl ⟨rfl,?_⟩⟩
    .rw[aI];unfold gj;dsimp only;rw[aC,af];rfl
    .unfold preB;rw[sb];exact λj i=>b j (GN.1 i)
  | succ d t =>
    intro k s b;have hx:a[k]?=some a[k]:=gH (by omega);have u:=h.Ig (Zb<|show k<a.length by omega);have v:=h.pa k;have q:=h.pa (k+1);have w:=h.2.1;have step:gj (a,()) ((false,aF<|a.take k,(k:Int),()),())=some (if eS (fw 0<|dL a k)=true then .inl ((false,dL a k,((k+1:Nat):Int),()),()) else .inr (1,(false,dL a k,(k:Int),()),())):=by
     unfold gj;dsimp only;have c:=vJ (fw 0<|dL a k) (by show(dL a k).length<=4096;unfold dL;omega) (by simp[fw]);unfold fw at c;rw[aq<|show k<a.length by omega,ab,ar hx,aa,x8 _ _ (by omega) (by omega),aa,pw h.1 hx,c,aa,aK (by omega)];unfold fw;cases eS (dL a k,(2:Int),(0:Int),([]:ao),([]:ao),())<;>rfl
    by_cases c:eS (fw 0<|dL a k)=true
    .rw[aV c] at step;obtain⟨r,e,l⟩:=t (k+1) (by omega) (λj i=>by
      by_cases m:j=k
      .rw[m];exact c
      .exact b j (by omega))
     exact⟨r,by rw[aI,step];exact e,l⟩
    .rw[aX c] at step;refine⟨_,by rw[aI,step];rfl,.inr ⟨rfl,rfl,?_⟩⟩;unfold preB;rw[Vr];exact⟨k,GN.2 (by omega),c⟩
 obtain⟨r,e,l⟩:=key a.length 0 (by omega) (λj i=>by omega);have n:Loop (gj (a,())) ((false,([]:ao),(0:Int),()),())=some r:=by
  have:aF (a.take 0)=[]:=by simp[aF]
  rw[this] at e;exact e
 rw[n,aa];rcases l with ⟨o,p⟩|⟨o,p,x⟩
 .rw[o,show du 0 0=true from rfl,ab,p,Qw]
  congr 2
  unfold nt bw;rw[EH];have:=ru h.1;simp[this]
 .rw[o,show du 1 0=false from rfl,af,p,x];rfl
def pN(a:List ao):Bool:=preB a a.length&&decide (a≠[])
theorem PK{a:List ao}(b:a≠[]):preB a a.length=(preB a (a.length-1)&&eS (fw 0<|aF a)):=by
 have c:0<a.length:=Iq.2 b;have e:a.length=a.length-1+1:=by omega
 unfold preB
 conv=>lhs;rw[e]
 rw[List.range_succ,List.all_append];have:dL a (a.length-1)=aF a:=by unfold dL;rw[A8<|by omega]
 simp[this]
theorem X8{a:List ao}(b:a≠[]){n:Nd}(c:n.1=aF a):(preB a (a.length-1)&&eS n)=(eS n&&pN a):=by
 unfold pN;rw[PK b,eu b];cases d:eS n with
 | false=>simp
 | true =>
   have:=acz d;rw[c] at this;rw[this];simp
theorem UU{n:Nd}(b:n.1=[]):dW (n,())=some (false,()):=by
 unfold dW;dsimp only;have a:bc ([]:ao)=([],[]):=by decide
 rw[b,pt _ (by simp),aa,a];dsimp only;rw[pJ _<|by simp,aa,show parts []=[] from rfl];have:=Gz [] ⟨λx c=>(by cases c),(by simp),(by simp[aF])⟩;rw[this,aa];rfl
theorem NV{b:List ao}(h:FD b):lI (aF b,())=some (decide (b=[])||pN b,()):=by
 unfold lI;dsimp only;by_cases a:b=[]
 .subst a;rfl
 .have c:aF b≠[]:=λe=>a ((ru h.1).1 e);have d:Sm (fw 0<|aF b):=⟨h.2.2,by simp[fw],by simp[fw]⟩;have:=Ko h a (n:=fw 0 (aF b)) rfl d;unfold fw at this;rw[bq c,az,ab,this,aa,aa,cU a,yA];dsimp only;unfold pN;rw[PK a,eu a,Zh];rfl
def iE(p:Pt)(a:ao):Nd:=(a,p.1.2.1,p.1.2.2.1,p.2.1,p.1.2.2.2.2.2.2.2.1,())
def sY(p:Pt):Bool:=decide (p.1.2.1=1)&&decide (p.2.1=[])
def rv(a:List ao):List ao:=a.dropLast++[(kO<|a.getLastD []).2]
def bE(p:Pt):Int×List ao×Bool :=
 if lp p.1.1=true then
  let ns:=names p.1.1
  if(kO<|ns.getLastD []).1=1 then(1,rv ns,sY p&&pN (rv ns))
  else if(kO<|ns.getLastD []).1=2 then(2,ns.dropLast,sY p&&(decide (ns.dropLast=[])||pN ns.dropLast))
  else if(kO<|ns.getLastD []).1=0 then(0,ns,(decide (ns=[])&&decide (p.1.2.1=2))||(eS (iE p<|aF ns)&&pN ns))
  else(0,[],false)
 else(0,[],false)
theorem z8{s:ao}(h:lp s=true):FD (names s):=by
 obtain⟨b,c,d⟩:=pL h;exact⟨λx a=>⟨(ua s x a).1,(ua s x a).2.1⟩,by omega,by omega⟩
theorem Cz{s:ao}(h:lp s=true):((names s).getLastD []).length<=96:=by
 obtain⟨c,d,e⟩:=pL h;cases b:names s with
 | nil=>simp
 | cons a r =>
   have:(a::r).getLastD []∈names s:=by
    rw[b,Y3,<-YP (h:=by simp)];exact List.getLast_mem _
   have:=BG (names s) _ this;omega
theorem vK{c:List ao}(h:Km c):bc (aF c)=(aF c.dropLast,c.getLastD []):=by
 by_cases b:c=[]
 .subst b;decide
 .rw[zT h b];cases c with
  | nil=>exact absurd rfl b
  | cons a r=>rw[YP,Y3]
theorem Kp{n:ao}(h:(kO n).1=1):(kO n).2=n.drop 4/\n.drop 4≠[]:=by
 unfold kO at h⊢;split at h
 .rename_i b;rw[aV b];split at h
  .cases h
  .rename_i c;rw[aX c];split at h
   .cases h
   .rename_i a;rw[aX a];exact⟨rfl,λe=>a (.inr<|.inl e)⟩
 .cases h
theorem aaT{n:ao}(h:(kO n).1≠0):n≠[]:=by
 rintro rfl;exact h (by decide)
theorem Kq(n:ao):(kO n).1=0\/(kO n).1=1\/(kO n).1=2\/(kO n).1=3:=by
 unfold kO;split
 .split
  .exact .inr (.inr<|.inl rfl)
  .split
   .exact .inr (.inr<|.inr rfl)
   .exact .inr (.inl rfl)
 .exact .inl rfl
theorem aaU(d n:ao):(oP d n).length<=d.length+n.length+1:=by
 unfold oP;split<;>simp<;>omega
theorem FE{s:ao}(h:lp s=true)(k:(kO<|(names s).getLastD []).1=1):oP (aF (names s).dropLast) (kO<|(names s).getLastD []).2=aF (rv<|names s)/\FD (rv<|names s):=by
 have c:=z8 h;obtain⟨e,j⟩:=Kp k;have d:(names s).getLastD []≠[]:=aaT (by rw[k];decide);have f:names s≠[]:=λq=>d (by rw[q];rfl);have g:(names s).getLastD []∈names s:=by
  cases m:names s with
  | nil=>exact absurd m f
  | cons a r =>
    rw[Y3,<-YP (h:=by simp)];exact List.getLast_mem _
 have i:Km (rv<|names s):=λx b=>by
  unfold rv at b;rcases ra.1 b with b|b
  .exact c.1 x (by rw[Qn] at b;exact EE b)
  .rw[EF] at b;subst b;rw[e];exact⟨λq=>(c.1 _ g).1 (Io q),j⟩
 have l:oP (aF (names s).dropLast) (kO<|(names s).getLastD []).2=aF (rv<|names s):=J2 [_] _ i;refine⟨l,i,?_,?_⟩
 .unfold rv;rw[gI,List.length_dropLast];have:=c.2.1;simp;have:=Iq.2 f;omega
 .rw[<-l];have n:=aaU (aF (names s).dropLast) (kO<|(names s).getLastD []).2;have o:=Cz h;have p:(aF (names s).dropLast).length<=96:=by
   rw[Qn];have:=z7 (names s) ((names s).length-1);have:=(pL h).2.2;omega
  have t:(kO<|(names s).getLastD []).2.length<=96:=by rw[e,j8];omega
  omega
theorem A1{a:List ao}(h:FD a):FD a.dropLast:=by
 rw[Qn];exact h.take _
def SmP(p:Pt):Prop:=p.1.1.length<=300/\p.1.2.2.2.2.2.2.2.1.length<=300/\p.2.1.length<=8192
theorem Aa(p:Pt)(i:SmP p):nP (p,())=some ((bE p).1,aF (bE p).2.1,(bE p).2.2,()):=by
 unfold nP;dsimp only;rw[PG p.1.1 (by have:=i.1;omega),aa];dsimp only;unfold bE;cases d:lp p.1.1 with
 | false =>
   have:kD p.1.1=([],2):=by unfold kD;rw[d];rfl
   rw[this,aX (by simp)];rfl
 | true =>
   have g:kD p.1.1=(aF<|names p.1.1,0):=by unfold kD;rw[d];rfl
   have a:=z8 d;have m:=(pL d).2.2;rw[g,aV rfl];dsimp only;rw[show nt (aZ 0 0)=false from rfl,af,tR _ (by omega),aa,vK a.1];dsimp only;rw[Gw,aa];dsimp only;have j:∀(A:Option Bool),(aj (aj (aZ p.1.2.1 1) (bw p.2.1 []) false) A<|some false)=if sY p=true then A else some false:=λA=>by
    unfold sY aZ bw;by_cases c:p.1.2.1=1
    .by_cases k:p.2.1=[]
     .simp[c,k,aj]
     .simp[c,k,aj]
    .simp[c,aj]
   have l:=Cz d;rcases Kq ((names p.1.1).getLastD []) with b|b|b|b
   .rw[b,show aZ 0 1=false from rfl,af,show aZ 0 2=false from rfl,af,show aZ 0 0=true from rfl,ab,aX (by decide),aX (by decide),aV rfl];unfold ql;dsimp only;rw[aa];dsimp only;have f:=vJ (iE p<|aF<|names p.1.1) (by show(aF<|names p.1.1).length<=4096;omega) (by show p.1.2.2.2.2.2.2.2.1.length<=4096;have:=i.2.1;omega);rw[show kL ((aF<|names p.1.1,p.1.2.1,p.1.2.2.1,p.2.1,p.1.2.2.2.2.2.2.2.1,()),())=_ from f,aa,wq a,aa];dsimp only;have h:aj (bw (aF<|names p.1.1) []) (aZ p.1.2.1 2) false=(decide (names p.1.1=[])&&decide (p.1.2.1=2)):=by
     have:=ru a.1;unfold bw aZ;by_cases c:names p.1.1=[]
     .rw[eu c,eu (this.2 c)];simp[aj]
     .rw[cU c,cU λe=>c (this.1 e)];rfl
    rw[h];cases decide (names p.1.1=[])&&decide (p.1.2.1=2) with
    | true=>rfl
    | false =>
      rw[az,ab];unfold pN;cases eS (iE p<|aF<|names p.1.1)<;>rfl
   .obtain⟨n,o⟩:=FE d b;rw[b,show aZ 1 1=true from rfl,ab,aV rfl,x8 _ _ (by have:=(A1 a).2.2;omega) (by rw[(Kp b).1,j8];omega),aa,n];dsimp only;rw[wq o,aa,j];unfold pN;cases sY p<;>rfl
   .rw[b,show aZ 2 1=false from rfl,af,show aZ 2 2=true from rfl,ab,aX (by decide),aV rfl];have hd:=A1 a;rw[wq hd,aa,j];have h:bw (aF (names p.1.1).dropLast) []=decide ((names p.1.1).dropLast=[]):=by
     have:=ru hd.1;unfold bw;exact jV.2 this
    rw[h];unfold pN;cases sY p<;>cases decide ((names p.1.1).dropLast=[])<;>rfl
   .rw[b,show aZ 3 1=false from rfl,af,show aZ 3 2=false from rfl,af,show aZ 3 0=false from rfl,af,aX (by decide),aX (by decide),aX (by decide)];rfl
set_option maxRecDepth 100000
end Go.Ge
namespace Go.Ge
variable [Lp]
set_option maxRecDepth 100000
def pb(i:Nat)(n:Nat)(x:UInt8):Option (Nat⊕(Nat×(Int×Bool×Int×Int×ah)×ah)) :=
 some (if x.toNat<48\/55<x.toNat then .inr (1,(0,false,(n:Int),(i:Int),()),()) else .inl (8*n+(x.toNat-48)))
def Ab(i:Nat)(n:Nat):Nat×(Int×Bool×Int×Int×ah)×ah:=(0,(0,false,(n:Int),(i:Int),()),())
theorem Kr{i n b:Nat}{x:UInt8}(c:i<=21/\n<8 ^ i)(d:i<21)(a:pb i n x=some (.inl b)):i+1<=21/\b<8 ^ (i+1):=by
 unfold pb at a;have a:=aG a;split at a
 .cases a
 .obtain rfl:=M3 a;refine⟨by omega,?_⟩;rw[Nat.pow_succ];omega
theorem Wh{i:Nat}(h:i<=20):8 ^ i<=1152921504606846976:=by
 have:(8:Nat) ^ i<=8 ^ 20:=Nat.pow_le_pow_right (by decide) h;have e:(8:Nat) ^ 20=1152921504606846976:=by decide
 omega
theorem BH(s:ao)(m:s.length<=21):Loop (bK (s,())) ((0,false,0,0,()),())=sF pb Ab s 0 0:=by
 have key:=oM (f:=bK (s,())) s (λ(n:Nat) i=>((0,false,(n:Int),(i:Int),()),())) pb Ab (λi n=>i<=21/\n<8 ^ i)
  (λn i x c g d=>by
   have o:=Wh (i:=i) (by omega);obtain⟨p,j⟩:=fU.1 c;have k:=x.toNat_lt;unfold bK pb;dsimp only;rw[kC,aJ (by omega),ab,aU (by omega) (by omega),ab,xp s g,j,aa,aK (by omega)];by_cases a:x.toNat<48
   .rw[aJ<|by unfold u8;omega,aE,af,ab,aV (.inl a)];rfl
   .by_cases b:55<x.toNat
    .rw[aA<|by unfold u8;omega,az,ab,aJ (by unfold u8;omega),ab,aV (.inr b)];rfl
    .rw[aA<|by unfold u8;omega,az,ab,aA (by unfold u8;omega),af,show ba 3 0=false from rfl,af,aX (by omega)];have e:u8 x=((48+(x.toNat-48):Nat):Int):=by unfold u8;omega
     rw[e,ah3 (by omega) (by omega)];rfl)
  (λn i x q c d l=>Kr d (by have:=aD c;omega) l)
  (λn d=>by
   unfold bK Ab;dsimp only;rw[kC,aA (by omega),af])
  (λ_ _ _ _ _ h=>by cases h) 0 ⟨by omega,by decide⟩
 exact key
theorem FF(s:ao)(m:s.length<=21):Loop (fX (s,())) ((0,false,0,0,()),())=sF pb Ab s 0 0:=by
 have key:=oM (f:=fX (s,())) s (λ(n:Nat) i=>((0,false,(n:Int),(i:Int),()),())) pb Ab (λi n=>i<=21/\n<8 ^ i)
  (λn i x c g d=>by
   have o:=Wh (i:=i) (by omega);have j:=x.toNat_lt;unfold fX pb;dsimp only;rw[aq g,ab,ar c,aa,aa,aa,aK (by omega)];by_cases a:x.toNat<48
   .rw[aJ<|by unfold u8;omega,aE,af,aa,aE,af,ab,aV (.inl a)];rfl
   .by_cases b:55<x.toNat
    .rw[aA<|by unfold u8;omega,az,ab,aa,aJ (by unfold u8;omega),aE,af,ab,aV (.inr b)];rfl
    .rw[aA<|by unfold u8;omega,az,ab,aa,aA (by unfold u8;omega),az,ab,aA (by omega),af,aX (by omega)];have e:u8 x=((48+(x.toNat-48):Nat):Int):=by unfold u8;omega
     rw[e,adu ⟨x.toNat-48,by omega⟩,zJ (by omega) (by omega),fk (by dsimp only;omega) (by dsimp only;omega)];have k:(8:Int)*(n:Int)+((x.toNat-48:Nat):Int)=((8*n+(x.toNat-48):Nat):Int):=by omega
     dsimp only;rw[k];rfl)
  (λn i x p c d l=>Kr d (by have:=aD c;omega) l)
  (λn d=>by
   unfold fX Ab;dsimp only;rw[aC,af])
  (λ_ _ _ _ _ h=>by cases h) 0 ⟨by omega,by decide⟩
 exact key
theorem L8:∀(r:ao) (i n:Nat),∃q,sF pb Ab r i n=some q/\(q.1=0\/q.1=1):=by
 intro r;induction r with
 | nil=>intro i n;exact⟨_,rfl,.inl rfl⟩
 | cons x r a =>
   intro i n;unfold sF pb;by_cases h:x.toNat<48\/55<x.toNat
   .rw[aV h];exact⟨_,rfl,.inr rfl⟩
   .rw[aX h];exact a (i+1) _
theorem Ac(s:ao)(e:s.length<=1048576):dm (s,())=mr (s,())/\∃n b,dm (s,())=some (n,b,()):=by
 unfold dm mr;dsimp only;by_cases f:s.length<1
 .rw[aJ<|by rw[br];omega,aE,af,ab,ab];exact⟨rfl,_,_,rfl⟩
 .by_cases g:21<s.length
  .rw[aA<|by rw[br];omega,az,ab,aJ (by rw[br];omega),ab,ab];exact⟨rfl,_,_,rfl⟩
  .rw[aA<|by rw[br];omega,az,ab,aA (by rw[br];omega),af,af,de (by rw[br];omega),ab,BH s (by omega),FF s (by omega)];refine⟨rfl,?_⟩;obtain⟨q,a,d⟩:=L8 s 0 0;rw[a,aa];rcases d with c|c
   .rw[c,bV,ab];exact⟨_,_,rfl⟩
   .rw[c,eC,af];exact⟨_,_,rfl⟩
end Go.Ge
namespace Go.Ge
variable [Lp]
theorem aaV{b S R:Type}{f:S->Option (S⊕R)}(l:List b)(c:Nat->S)(p:b->Bool)(g:Nat->R)(k:R)
  (h:∀(i:Nat) (x:b),l[i]?=some x->f (c i)=some (if p x=true then .inr (g i) else .inl (c<|i+1))) (n:f (c l.length)=some (.inr k)) :
  ∀(d i:Nat),i+d=l.length->(∃(j:Nat) (x:b),i<=j/\l[j]?=some x/\p x=true/\(∀(m:Nat) (y:b),i<=m->m<j->l[m]?=some y->p y=false)/\Loop f (c i)=some (g j)) \/
   ((∀(m:Nat) (y:b),i<=m->l[m]?=some y->p y=false)/\Loop f (c i)=some k):=by
 intro d;induction d with
 | zero =>
   intro i w;obtain rfl:i=l.length:=by omega
   refine .inr ⟨λm y r a=>?_,by rw[aI,n];rfl⟩;have:=aD a;omega
 | succ d z =>
   intro i w;have hx:l[i]?=some l[i]:=gH (by omega);have o:=h i _ hx;by_cases s:p l[i]=true
   .rw[aV s] at o;exact .inl ⟨i,_,bZ _,hx,s,λm y r A=>absurd r (by omega),by rw[aI,o];rfl⟩
   .rw[aX s] at o;have q:p l[i]=false:=by simpa using s
    rcases z (i+1) (by omega) with ⟨j,x,v,t,B,C,D⟩|⟨v,t⟩
    .refine .inl ⟨j,x,by omega,t,B,λm y r u a=>?_,by rw[aI,o];exact D⟩;by_cases e:m=i
     .subst e;rw[hx] at a;rw[<-aG a];exact q
     .exact C m y (by omega) u a
    .refine .inr ⟨λm y r a=>?_,by rw[aI,o];exact t⟩;by_cases e:m=i
     .subst e;rw[hx] at a;rw[<-aG a];exact q
     .exact v m y (by omega) a
theorem Sr(p:UInt8->Bool)(s:ao):∃z,s=cj p s++z/\∀x∈z,p x=true:=by
 refine⟨(s.reverse.takeWhile p).reverse,?_,λx a=>?_⟩
 .unfold cj;rw[<-List.reverse_append,Lg,List.reverse_reverse]
 .rw[Qr] at a;exact Fv a
theorem Ss{p:UInt8->Bool}{s:ao}{m:Nat}{x:UInt8}(d:s[m]?=some x)(e:p x=false):m<(cj p s).length/\∀j,j<=m->(cj p s)[j]?=s[j]?:=by
 obtain⟨z,b,a⟩:=Sr p s;have f:m<(cj p s).length:=by
  apply ML;intro g;have c:(cj p s++z)[m]?=some x:=by rw[<-b];exact d
  rw[Ik<|by omega] at c;have:=a x (eF c);rw[e] at this;cases this
 refine⟨f,λj h=>?_⟩
 conv=>rhs;rw[b]
 rw[Og<|by omega]
theorem yd{p:UInt8->Bool}{s:ao}{j:Nat}(c:∀(m:Nat) (y:UInt8),j<=m->s[m]?=some y->p y=true)(d:∀(m:Nat) (y:UInt8),m<j->s[m]?=some y->p y=false):cj p s=s.take j:=by
 have e:s=s.take j++s.drop j:=(vV j s).symm
 conv=>lhs;rw[e]
 rw[NG _ _ λx a=>by
  obtain⟨i,b⟩:=bR.1 a;rw[mF] at b;exact c (j+i) x (by omega) b]
 refine aaE λx a=>?_;rw[List.getLast?_eq_getElem?] at a;have f:=aD a;rw[fT] at a f;rw[adb<|by omega] at a;exact d _ x (by omega) a
def GA(x:UInt8):Bool:=decide (48<=x.toNat/\x.toNat<=55)
theorem aaW{x:UInt8}(h:GA x=true):vh x=false:=by
 unfold GA at h;have h:=kH h;cases a:vh x with
 | false=>rfl
 | true =>
   rcases(RY x).1 a with e|e
   .subst e;exact absurd h.1 (by decide)
   .subst e;exact absurd h.1 (by decide)
theorem Su:∀(r:ao) (i n:Nat) (x:UInt8),x∈r->GA x=false->∃q,sF pb Ab r i n=some q/\q.1=1/\q.2.1.2.1=false:=by
 intro r;induction r with
 | nil=>intro i n x b;cases b
 | cons a r d =>
   intro i n x b c;unfold sF pb;by_cases h:a.toNat<48\/55<a.toNat
   .rw[aV h];exact⟨_,rfl,rfl,rfl⟩
   .rw[aX h];rcases gd.1 b with e|b
    .subst e;unfold GA at c;have:=Ol c;omega
    .exact d (i+1) _ x b c
theorem L9{s:ao}(c:s.length<=21){x:UInt8}(a:x∈s)(d:GA x=false):∃n,dm (s,())=some (n,false,()):=by
 have b:0<s.length:=List.length_pos_of_mem a;unfold dm;dsimp only;rw[aA<|by rw[br];omega,az,ab,aA (by rw[br];omega),af,de (by rw[br];omega),ab,BH s c];obtain⟨q,e,f,g⟩:=Su s 0 0 x a d;rw[e,aa,f,eC,af,g];exact⟨_,rfl⟩
theorem aib(x:UInt8):da 48 (u8 x)=decide (48<=x.toNat):=by unfold da u8;apply jV.2;omega
theorem aic(x:UInt8):da (u8 x) 55=decide (x.toNat<=55):=by unfold da u8;apply jV.2;omega
theorem pO(s:ao)(I:s.length<=21):fc (s,())=cN (s,()):=by
 unfold fc cN;dsimp only;rw[DY s<|by omega,aa];dsimp only;have first:=aaV (f:=gk (s,())) s (λi=>(((i:Int),()),())) (λx=>!GA x) (λj=>(((j:Int),()),())) (((s.length:Int),()),()) (λi x t=>by
  have hi:=aD t;unfold gk;dsimp only;rw[aq hi,ab,ar t,aa,aa,aa,aib,aic,aK (by omega)];unfold GA;by_cases c:48<=x.toNat
  .by_cases d:x.toNat<=55
   .rw[eu c,eu d,eu ⟨c,d⟩];rfl
   .rw[eu c,cU d,cU λq:48<=x.toNat/\x.toNat<=55=>d q.2];rfl
  .rw[cU c,cU λq:48<=x.toNat/\x.toNat<=55=>c q.1];rfl) (by
  unfold gk;dsimp only;rw[aC,af];rfl) s.length 0 (by omega)
 rcases first with ⟨j,x,_,t,D,u,z⟩|⟨v,z⟩
 .rw[show Loop (gk (s,())) (((0:Int),()),())=_ from z,aa];have J:=aD t;have A:GA x=false:=by simpa using D
  dsimp only;rw[aN<|by rw[br];omega,af];have second:=aaV (f:=gl (s,())) s (λi=>(((0:Int),(i:Int),()),())) (λx=>!vh x) (λj=>(1,((-1:Int),(j:Int),()),())) (0,((0:Int),(s.length:Int),()),()) (λi y g=>by
   have hi:=aD g;have e0:aZ (u8 y) 0=decide (y=0):=BB (n:=0);have B:aZ (u8 y) 32=decide (y=32):=BB (n:=32);unfold gl;dsimp only;rw[aq hi,ab,ar g,aa,aa,e0,B,aK (by omega)];have h:=RY y;by_cases c:y=0
   .rw[eu c,h.2 (.inl c)];rfl
   .by_cases d:y=32
    .rw[cU c,eu d,h.2 (.inr d)];rfl
    .rw[cU c,cU d,show vh y=false by
     cases E:vh y with
     | false=>rfl
     | true=>rcases h.1 E with e|e
             .exact absurd e c
             .exact absurd e d];rfl) (by
   unfold gl;dsimp only;rw[aC,af]) (s.length-j) j (by omega)
  rcases second with ⟨m,y,k,g,F,_,l⟩|⟨o,l⟩
  .rw[show Loop (gl (s,())) (((0:Int),(j:Int),()),())=_ from l,aa,eC,af];obtain⟨K,G⟩:=Ss (p:=vh) g (by simpa using F);have w:x∈cj vh s:=by
    refine bR.2 ⟨j,?_⟩;rw[G j k,t]
   have hlen:=od vh s;obtain⟨n,H⟩:=L9 (by omega) w A;rw[H,aa];rfl
  .rw[show Loop (gl (s,())) (((0:Int),(j:Int),()),())=_ from l,aa,bV,ab];have r:cj vh s=s.take j:=yd (λm y k g=>by simpa using o m y k g) (λm y k g=>aaW (by simpa using u m y (mK _) k g));have C:inside (0:Int) (j:Int) (len s)=true:=nq (a:=0) (mK _) (by omega);rw[C,ab,iC,r];obtain⟨c,n,b,d⟩:=Ac (s.take j) (by rw[fT];omega);rw[<-c,d,aa,aa];dsimp only;rw[aN<|show len (s.take j)≠len s by rw[br,br,fT];omega];cases b<;>rfl
 .rw[show Loop (gk (s,())) (((0:Int),()),())=_ from z,aa,aT (by rw[br]),ab];have r:cj vh s=s:=by
   have:=yd (p:=vh) (s:=s) (j:=s.length) (λm y k g=>by have:=aD g;omega) (λm y k g=>aaW (by simpa using v m y (mK _) g));rw[this,wI]
  rw[r];obtain⟨_,n,b,d⟩:=Ac s (by omega);rw[d,aa];dsimp only;rw[aT rfl];cases b<;>rfl
theorem FG(s:ao)(N:s.length<=1000):∃t B,nR (s,())=some (t,B,())/\jO (s,())=some (cj b8 s,B,())/\(B=true->t=cj b8 s)/\t.length<=s.length:=by
 have e0:∀y:UInt8,aZ (u8 y) 0=b8 y:=λy=>rfl;rw[D0 s<|by omega];unfold nR;have inner:∀i:Nat,i<=s.length->_:=λi C=>aaV (f:=ez (s,())) s (λk=>((([]:ao),false,(k:Int),()),())) (λx=>!b8 x) (λj=>(1,(([]:ao),false,(j:Int),()),())) (0,(([]:ao),false,(s.length:Int),()),()) (λk y b=>by
  have G:=aD b;unfold ez;dsimp only;rw[aq G,ab,ar b,aa,e0,aK (by omega)];cases b8 y<;>rfl) (by
  unfold ez;dsimp only;rw[aC,af]) (s.length-i) i (by omega)
 have outer:(∃(i:Nat) (x:UInt8),s[i]?=some x/\b8 x=true/\(∀(m:Nat) (y:UInt8),m<i->s[m]?=some y->b8 y=false)/\Loop (dw (s,())) ((([]:ao),false,(0:Int),()),())=(ae (Loop (ez (s,())) ((([]:ao),false,(i:Int),()),())) λo=>some (if o.1=0 then(1,(s.take i,true,(i:Int),()),()) else(1,(o.2.1.1,o.2.1.2.1,(i:Int),()),())))) \/
   ((∀(m:Nat) (y:UInt8),s[m]?=some y->b8 y=false)/\Loop (dw (s,())) ((([]:ao),false,(0:Int),()),())=some (0,(([]:ao),false,(s.length:Int),()),())):=by
  have key:∀(d i:Nat),i+d=s.length->(∀(m:Nat) (y:UInt8),m<i->s[m]?=some y->b8 y=false)->(∃(j:Nat) (x:UInt8),s[j]?=some x/\b8 x=true/\(∀(m:Nat) (y:UInt8),m<j->s[m]?=some y->b8 y=false)/\Loop (dw (s,())) ((([]:ao),false,(i:Int),()),())=(ae (Loop (ez (s,())) ((([]:ao),false,(j:Int),()),())) λo=>some (if o.1=0 then(1,(s.take j,true,(j:Int),()),()) else(1,(o.2.1.1,o.2.1.2.1,(j:Int),()),())))) \/
   ((∀(m:Nat) (y:UInt8),s[m]?=some y->b8 y=false)/\Loop (dw (s,())) ((([]:ao),false,(i:Int),()),())=some (0,(([]:ao),false,(s.length:Int),()),())):=by
   intro d;induction d with
   | zero =>
     intro i C r;obtain rfl:i=s.length:=by omega
     refine .inr ⟨λm y b=>r m y (aD b) b,?_⟩;have A:dw (s,()) ((([]:ao),false,(s.length:Int),()),())=some (.inr (0,(([]:ao),false,(s.length:Int),()),())):=by
      unfold dw;dsimp only;rw[aC,af]
     rw[aI,A];rfl
   | succ d H =>
     intro i C r;have hx:s[i]?=some s[i]:=gH (by omega);cases w:b8 s[i] with
     | true =>
       refine .inl ⟨i,s[i],hx,w,r,?_⟩;have u:∃z,Loop (ez (s,())) ((([]:ao),false,(i:Int),()),())=some z/\(z.1=0\/z.1=1):=by
        rcases inner i (by omega) with ⟨j,x,_,_,_,_,h⟩|⟨_,h⟩
        .exact⟨_,h,.inr rfl⟩
        .exact⟨_,h,.inl rfl⟩
       obtain⟨z,A,I⟩:=u;have D:inside (0:Int) (i:Int) (len s)=true:=nq (a:=0) (mK _) (by omega);have v:dw (s,()) ((([]:ao),false,(i:Int),()),())=some (.inr<|if z.1=0 then(1,(s.take i,true,(i:Int),()),()) else(1,(z.2.1.1,z.2.1.2.1,(i:Int),()),())):=by
        unfold dw;dsimp only;rw[aq<|show i<s.length by omega,ab,ar hx,aa,e0,w,ab,A,aa];rcases I with c|c
        .rw[c,bV,ab,D,ab,iC,aV rfl]
        .rw[c,eC,af,aX (by decide)]
       rw[A,aa,aI,v];rfl
     | false =>
       have v:dw (s,()) ((([]:ao),false,(i:Int),()),())=some (.inl ((([]:ao),false,((i+1:Nat):Int),()),())):=by
        unfold dw;dsimp only;rw[aq<|show i<s.length by omega,ab,ar hx,aa,e0,w,af,aK (by omega)]
       rw[aI,v];exact H (i+1) (by omega) (λm y g b=>by
        by_cases e:m=i
        .subst e;rw[hx] at b;rw[<-aG b];exact w
        .exact r m y (by omega) b)
  exact key s.length 0 (by omega) (λm y g=>absurd g (by omega))
 rcases outer with ⟨i,x,hx,w,r,E⟩|⟨n,E⟩
 .rw[E];have C:=aD hx;rcases inner i (by omega) with ⟨j,y,J,b,K,_,h⟩|⟨L,h⟩
  .rw[show Loop (ez (s,())) ((([]:ao),false,(i:Int),()),())=_ from h,aa,aa,aX (show ¬(1:Nat)=0 by decide),eC,af];refine⟨[],false,rfl,?_,λq=>(by cases q),by simp⟩;obtain⟨O,M⟩:=Ss (p:=b8) b (by simpa using K);have:¬vI (cj b8 s):=λq=>by
    have g:x∈cj b8 s:=bR.2 ⟨i,by rw[M i J,hx]⟩;exact q x g ((xq x).1 w)
   rw[cU this]
  .rw[show Loop (ez (s,())) ((([]:ao),false,(i:Int),()),())=_ from h,aa,aa,aV rfl,eC,af];have l:cj b8 s=s.take i:=yd (λm y g b=>by simpa using L m y g b) (λm y g b=>r m y g b);refine⟨_,true,rfl,?_,λ_=>l.symm,by dsimp only;rw[fT];omega⟩;have:vI (cj b8 s):=λy b=>by
    rw[l] at b;obtain⟨m,g⟩:=bR.1 b;have F:=aD g;rw[fT] at F;rw[adb<|by omega] at g;intro e;have:=r m y (by omega) g;rw[(xq y).2 e] at this;cases this
   rw[eu this]
 .rw[E,aa,bV,ab];have l:cj b8 s=s:=by
   have:=yd (p:=b8) (s:=s) (j:=s.length) (λm y g b=>by have:=aD b;omega) (λm y g b=>n m y b);rw[this,wI]
  refine⟨s,true,rfl,?_,λ_=>l.symm,bZ _⟩;have:vI (cj b8 s):=λy b e=>by
   rw[l] at b;obtain⟨m,g⟩:=bR.1 b;have:=n m y g;rw[(xq y).2 e] at this;cases this
  rw[eu this]
theorem r4(b:ao)(c:b.length=512)(a e:Nat)(h:a<=e)(d:e<=512):inside (a:Int) (e:Int) (len b)=true/\sub b (a:Int) (minus (e:Int) (a:Int))=fW b a (e-a):=by
 refine⟨nq h<|by omega,?_⟩;unfold sub minus fW;rw[sQ,show((e:Int)-(a:Int)).toNat=e-a by omega]
theorem aaX(p q r:Bool)(H c:Hd)(d:p=true->q=true->r=true->c=H)(e:c.1.length<=1048576)(f:c.2.2.2.2.2.2.2.1.length<=1048576) :
  ae (aj (nt<|aj (nt<|aj (nt<|nt p) (nt q) true) (nt r) true) (ae (sw (c,(256:Int),())) λ(a:Bool×ah)=>some (nt a.1))<|some true) (λ(a:Bool)=>aj a (some (XZ,(2:Int),())) (some (c,(0:Int),()))) =
  ae (aj (nt<|aj (nt<|aj (nt<|nt p) (nt q) true) (nt r) true) (ae (pF (H,(256:Int),())) λ(b:Bool×ah)=>some (nt b.1))<|some true) (λ(b:Bool)=>aj b (some (XZ,(2:Int),())) (some (H,(0:Int),()))):=by
 rw[acs c 256 e f,R2,aa,aa];cases p with
 | false=>rfl
 | true =>
   cases q with
   | false=>rfl
   | true =>
     cases r with
     | false=>rfl
     | true=>rw[d rfl rfl rfl]
theorem take_same(b:ao)(a:b.length=512):nS (b,())=eU (b,()):=by
 obtain⟨P,p⟩:=eE (fW b 148 8) (by have:=b6 b 148 8;omega);have r6:=pO (fW b 148 8) (by have:=b6 b 148 8;omega);obtain⟨s,t⟩:=r4 b a 257 265 (by omega) (by omega);obtain⟨H,I⟩:=r4 b a 148 156 (by omega) (by omega);have q:aZ (len b) 512=true:=aT (by simp only[len];omega);by_cases j:fW b 257 8=mz
 case neg =>
  rw[Cw b a j];unfold nS;dsimp only;rw[q,aE,az,ab,show inside (257:Int) (265:Int) (len b)=true from s,ab,show sub b (257:Int) (minus (265:Int) (257:Int))=fW b 257 8 from t,show([117,115,116,97,114,0,48,48]:ao)=mz from rfl,show bw (fW b 257 8) mz=false from cU j,az,aa,aE,af,aa,ab];rfl
 by_cases r:P=(pM b 512:Int)
 case neg =>
  rw[Sc b a p r];unfold nS;dsimp only;rw[q,aE,az,ab,show inside (257:Int) (265:Int) (len b)=true from s,ab,show sub b (257:Int) (minus (265:Int) (257:Int))=fW b 257 8 from t,show([117,115,116,97,114,0,48,48]:ao)=mz from rfl,j,show bw mz mz=true from jo _,aE,aa,az,ab,show inside (148:Int) (156:Int) (len b)=true from H,ab,show sub b (148:Int) (minus (156:Int) (148:Int))=fW b 148 8 from I,r6,p,aa,D8 b (by omega),aa];dsimp only;rw[a,aN r,az,aa,ab];rfl
 obtain⟨n1,J⟩:=eE (fW b 100 8) (by have:=b6 b 100 8;omega);obtain⟨n2,K⟩:=eE (fW b 108 8) (by have:=b6 b 108 8;omega);obtain⟨n3,L⟩:=eE (fW b 116 8) (by have:=b6 b 116 8;omega);obtain⟨n4,M⟩:=eE (fW b 124 12) (by have:=b6 b 124 12;omega);obtain⟨n5,N⟩:=eE (fW b 136 12) (by have:=b6 b 136 12;omega);have Q:=(pO (fW b 100 8) (by have:=b6 b 100 8;omega)).trans J;have r2:=(pO (fW b 108 8) (by have:=b6 b 108 8;omega)).trans K;have R:=(pO (fW b 116 8) (by have:=b6 b 116 8;omega)).trans L;have S:=(pO (fW b 124 12) (by have:=b6 b 124 12;omega)).trans M;have T:=(pO (fW b 136 12) (by have:=b6 b 136 12;omega)).trans N;have m0:=b6 b 0 100;have m8:=b6 b 157 100;have m10:=b6 b 345 155;obtain⟨f,U,u,v,w,V⟩:=FG (fW b 0 100) (by omega);obtain⟨W,X,y,z,A,Y⟩:=FG (fW b 157 100) (by omega);obtain⟨d,B,k,l,m,O⟩:=FG (fW b 345 155) (by omega);have l0:=od b8 (fW b 0 100);have l10:=od b8 (fW b 345 155);obtain⟨Z,s0⟩:=r4 b a 0 100 (by omega) (by omega);obtain⟨i8,s8⟩:=r4 b a 157 257 (by omega) (by omega);obtain⟨C,D⟩:=r4 b a 345 500 (by omega) (by omega);obtain⟨i1,s1⟩:=r4 b a 100 108 (by omega) (by omega);obtain⟨i2,s2⟩:=r4 b a 108 116 (by omega) (by omega);obtain⟨i3,s3⟩:=r4 b a 116 124 (by omega) (by omega);obtain⟨i4,s4⟩:=r4 b a 124 136 (by omega) (by omega);obtain⟨i5,s5⟩:=r4 b a 136 148 (by omega) (by omega);obtain⟨c,hk,f7⟩:∃c,b[156]?=some c/\fW b 156 1=[c]:=by
  refine⟨b[156],gH (by omega),?_⟩;unfold fW;rw[y7<|by omega];rfl
 unfold eU;dsimp only;rw[q,aE,az,ab,o9 b a,aa,aa,show([117,115,116,97,114,0,48,48]:ao)=mz from rfl];dsimp only;rw[j,show bw mz mz=true from jo _,aE,az,ab,o6 b a,aa];dsimp only;rw[p,aa,Fz b (by omega),aa];dsimp only;rw[a,aT r,aE,aa,af,o0 b a,aa];dsimp only;rw[v,aa,o8 b a,aa];dsimp only;rw[z,aa,o10 b a,aa];dsimp only;rw[l,aa];dsimp only;have o:(aj (nt<|bw (cj b8<|fW b 345 155) []) (aj (fits<|plus (len<|cj b8<|fW b 345 155)<|len ([47]:ao)) (aj (fits<|plus (len<|app (cj b8<|fW b 345 155) [47])<|len<|cj b8<|fW b 0 100)
   (some ((app (app (cj b8<|fW b 345 155) [47])<|cj b8<|fW b 0 100,()),())) none) none)<|some ((cj b8<|fW b 0 100,()),()))=some ((if cj b8 (fW b 345 155)=[] then cj b8 (fW b 0 100) else cj b8 (fW b 345 155)++[47]++cj b8 (fW b 0 100),()),()):=by
  by_cases e:cj b8 (fW b 345 155)=[]
  .rw[aV e,cv e,aE,af]
  .rw[aX e,bq e,az,ab,de (by simp only[plus,len,dh,eG];omega),ab,de (by simp only[plus,len,app,gI,dh,eG];omega),ab];rfl
 rw[o,aa,o1 b a,aa];dsimp only;rw[J,aa,o2 b a,aa];dsimp only;rw[K,aa,o3 b a,aa];dsimp only;rw[L,aa,o4 b a,aa];dsimp only;rw[M,aa,o5 b a,aa];dsimp only;rw[N,aa,o7 b a,aa,f7];unfold nS;dsimp only;rw[q,aE,az,ab,show inside (257:Int) (265:Int) (len b)=true from s,ab,show sub b (257:Int) (minus (265:Int) (257:Int))=fW b 257 8 from t,show([117,115,116,97,114,0,48,48]:ao)=mz from rfl,j,show bw mz mz=true from jo _,aE,aa,az,ab,show inside (148:Int) (156:Int) (len b)=true from H,ab,show sub b (148:Int) (minus (156:Int) (148:Int))=fW b 148 8 from I,r6,p,aa,D8 b (by omega),aa];dsimp only;rw[a,aT r,aE,aa,af];rw[show inside (0:Int) (100:Int) (len b)=true from Z,ab,show sub b (0:Int) (minus (100:Int) (0:Int))=fW b 0 100 from s0,u,aa];rw[show inside (157:Int) (257:Int) (len b)=true from i8,ab,show sub b (157:Int) (minus (257:Int) (157:Int))=fW b 157 100 from s8,y,aa];rw[show inside (345:Int) (500:Int) (len b)=true from C,ab,show sub b (345:Int) (minus (500:Int) (345:Int))=fW b 345 155 from D,k,aa];rw[show inside (100:Int) (108:Int) (len b)=true from i1,ab,show sub b (100:Int) (minus (108:Int) (100:Int))=fW b 100 8 from s1,Q,aa];rw[show inside (108:Int) (116:Int) (len b)=true from i2,ab,show sub b (108:Int) (minus (116:Int) (108:Int))=fW b 108 8 from s2,r2,aa];rw[show inside (116:Int) (124:Int) (len b)=true from i3,ab,show sub b (116:Int) (minus (124:Int) (116:Int))=fW b 116 8 from s3,R,aa];rw[show inside (124:Int) (136:Int) (len b)=true from i4,ab,show sub b (124:Int) (minus (136:Int) (124:Int))=fW b 124 12 from s4,S,aa];rw[show inside (136:Int) (148:Int) (len b)=true from i5,ab,show sub b (136:Int) (minus (148:Int) (136:Int))=fW b 136 12 from s5,T,aa];dsimp only;have g:∀(x:Int×Int×Int×Int×Int×Int×ao×ah),(aj (nt<|bw d []) (aj (fits<|plus (len d)<|len ([47]:ao)) (aj (fits<|plus (len<|app d [47])<|len f)
   (some ((),(app (app d [47]) f,x),())) none) none)<|some ((),(f,x),()))=some ((),(if d=[] then f else d++[47]++f,x),()):=λx=>by
  by_cases e:d=[]
  .rw[aV e,cv e,aE,af]
  .rw[aX e,bq e,az,ab,de (by simp only[plus,len,dh,eG];omega),ab,de (by simp only[plus,len,app,gI,dh,eG];omega),ab];rfl
 rw[g,aa,show idx b (156:Int)=some c from ar (i:=156) hk,aa];have E:bw [c] [48]=decide (c=48):=jV.2 (by simp);have c0:bw [c] [0]=decide (c=0):=jV.2 (by simp);have c53:bw [c] [53]=decide (c=53):=jV.2 (by simp);have F:bw [c] [50]=decide (c=50):=jV.2 (by simp);have d48:aZ (u8 c) 48=decide (c=48):=BB (n:=48);have d0:aZ (u8 c) 0=decide (c=0):=BB (n:=0);have d53:aZ (u8 c) 53=decide (c=53):=BB (n:=53);have d50:aZ (u8 c) 50=decide (c=50):=BB (n:=50);rw[E,c0,c53,F,d48,d0,d53,d50];have h:(if d=[] then f else d++[47]++f).length<=1048576:=by
  split
  .omega
  .simp only[gI,dh,eG];omega
 refine aaX U X B _ _ (λa0 a8 G=>?_) ?_ ?_
 .rw[w a0,A a8,m G];all_goals cases decide (c=48)<;>cases decide (c=0)<;>cases decide (c=53)<;>cases decide (c=50)<;>rfl
 .cases decide (c=48)<;>cases decide (c=0)<;>cases decide (c=53)<;>cases decide (c=50)<;>exact h
 .have h8:W.length<=1048576:=by omega
  have hn:([]:ao).length<=1048576:=by simp
  cases decide (c=48)<;>cases decide (c=0)<;>cases decide (c=53)<;>cases decide (c=50)<;>first|exact hn|exact h8
abbrev Stp:=((ao×ah)⊕((ao×ah)⊕(ah⊕((Nd×ah)⊕ah))))
def Wi(p:Pt)(w:Int×List ao×Bool):Stp :=
 if w.1=1 then .inl (aF w.2.1,()) else if w.1=2 then .inr (.inl (aF w.2.1,())) else if w.2.1=[] then .inr (.inr<|.inl ()) else .inr (.inr<|.inr<|.inl (iE p<|aF w.2.1,()))
def iT(p:Pt):Stp:=Wi p (bE p)
theorem Ks(p:Pt)(A:Option Bool):(aj (aj (aZ p.1.2.1 1) (bw p.2.1 []) false) A<|some false)=if sY p=true then A else some false:=by
 unfold sY aZ bw;by_cases a:p.1.2.1=1
 .by_cases b:p.2.1=[]
  .simp[a,b,aj]
  .simp[a,b,aj]
 .simp[a,aj]
theorem X9(a:List ao):rv a≠[]:=by unfold rv;simp
theorem aaY(p:Pt)(k:SmP p):∃s,qj (p,())=some (s,(bE p).2.2,())/\((bE p).2.2=true->s=iT p):=by
 unfold qj;dsimp only;rw[NJ p.1.1 (by have:=k.1;omega),aa];dsimp only;unfold iT;cases c:lp p.1.1 with
 | false =>
   have:kD p.1.1=([],2):=by unfold kD;rw[c];rfl
   have f:bE p=(0,[],false):=by unfold bE;rw[c,aX (by simp)]
   rw[this,f];exact⟨_,rfl,λh=>by cases h⟩
 | true =>
   have l:kD p.1.1=(aF<|names p.1.1,0):=by unfold kD;rw[c];rfl
   have d:=z8 c;have q:=(pL c).2.2;have o:=Cz c;rw[l];dsimp only;rw[show nt (aZ 0 0)=false from rfl,af,pt _ (by omega),aa,vK d.1];dsimp only;rw[R6,aa];dsimp only;rcases Kq ((names p.1.1).getLastD []) with b|b|b|b
   .have f:bE p=(0,names p.1.1,(decide (names p.1.1=[])&&decide (p.1.2.1=2))||(eS (iE p<|aF<|names p.1.1)&&pN (names p.1.1))):=by
     unfold bE;rw[c,aV rfl];dsimp only;rw[b,aX (by decide),aX (by decide),aV rfl]
    rw[f,b,show aZ 0 1=false from rfl,af,show aZ 0 2=false from rfl,af,show aZ 0 3=false from rfl,af];unfold Wi;dsimp only;rw[aX<|by decide,aX (by decide)];have g:=ru d.1;by_cases a:names p.1.1=[]
    .have i:aF (names p.1.1)=[]:=g.2 a;rw[eu a,cv i,ab,aV a];by_cases j:p.1.2.1=2
     .rw[aT j,eu j,ab];exact⟨_,rfl,λ_=>rfl⟩
     .rw[aN j,cU j,af];have:=UU (n:=iE p (aF<|names p.1.1)) i;rw[show dW ((aF<|names p.1.1,p.1.2.1,p.1.2.2.1,p.2.1,p.1.2.2.2.2.2.2.2.1,()),())=_ from this,aa];have m:pN (names p.1.1)=false:=by unfold pN;rw[a];rfl
      rw[m];simp only[Vw,Qx];exact⟨_,rfl,λh=>by cases h⟩
    .have i:aF (names p.1.1)≠[]:=λe=>a (g.1 e);rw[cU a,bq i,af,af,aX a];have r:Sm (iE p<|aF<|names p.1.1):=⟨by show(aF<|names p.1.1).length<=200;omega,k.2.1,k.2.2⟩;have:=Ko d a (n:=iE p (aF<|names p.1.1)) rfl r;rw[X8 a rfl] at this;rw[show dW ((aF<|names p.1.1,p.1.2.1,p.1.2.2.1,p.2.1,p.1.2.2.2.2.2.2.2.1,()),())=_ from this,aa];simp only[Ze,yA];exact⟨_,rfl,λ_=>rfl⟩
   .obtain⟨t,u⟩:=FE c b;have f:bE p=(1,rv<|names p.1.1,sY p&&pN (rv<|names p.1.1)):=by
     unfold bE;rw[c,aV rfl];dsimp only;rw[b,aV rfl]
    rw[f,b,show aZ 1 1=true from rfl,ab,Fx _ _ (by have:=(A1 d).2.2;omega) (by rw[(Kp b).1,j8];omega),aa,t];dsimp only;rw[NV u,aa,Ks,cU (X9 _),yA];refine⟨.inl (aF<|rv<|names p.1.1,()),?_,λ_=>rfl⟩;cases sY p<;>rfl
   .have hd:=A1 d;have f:bE p=(2,(names p.1.1).dropLast,sY p&&(decide ((names p.1.1).dropLast=[])||pN (names p.1.1).dropLast)):=by
     unfold bE;rw[c,aV rfl];dsimp only;rw[b,aX (by decide),aV rfl]
    rw[f,b,show aZ 2 1=false from rfl,af,show aZ 2 2=true from rfl,ab];rw[NV hd,aa,Ks];refine⟨.inr<|.inl (aF (names p.1.1).dropLast,()),?_,λ_=>rfl⟩;cases sY p<;>rfl
   .have f:bE p=(0,[],false):=by
     unfold bE;rw[c,aV rfl];dsimp only;rw[b,aX (by decide),aX (by decide),aX (by decide)]
    rw[f,b,show aZ 3 1=false from rfl,af,show aZ 3 2=false from rfl,af,show aZ 3 3=true from rfl,ab];exact⟨_,rfl,λh=>by cases h⟩
def jF(l:List Pt):Bool:=l.all λp=>(bE p).2.2
def Sv(l:List Pt):Prop:=l.length<=10000/\∀p∈l,SmP p
theorem aaZ{l:List Pt}:(∀(i:Nat) (x:Pt),l[i]?=some x->(!(bE x).2.2)=false)->jF l=true:=λh=>by
 unfold jF;rw[sb];intro x a;obtain⟨i,b⟩:=bR.1 a;have:=h i x b;simpa using this
theorem Wj{l:List Pt}{i:Nat}{x:Pt}(a:l[i]?=some x)(h:(!(bE x).2.2)=true):jF l=false:=by
 unfold jF;rw[Vr];exact⟨x,eF a,by simpa using h⟩
theorem NW(l:List Pt)(c:Sv l):lJ (l,())=some (if jF l=true then(l.map iT,true,()) else([],false,())):=by
 unfold lJ;have n:=c.1;rcases pT (f:=fG (l,())) l (λi=>((([]:List Stp),false,(),i,()),(l.take i.toNat).map iT,())) (λ_ x=>!(bE x).2.2) (λi _=>(1,(([]:List Stp),false,(),(i:Int),()),(l.take i).map iT,())) (0,(([]:List Stp),false,(),(l.length:Int),()),l.map iT,()) (by omega) (λi x a d b=>by
  obtain⟨s,e,g⟩:=aaY x (c.2 x<|eF a);unfold fG;dsimp only;rw[aq d,ab,ar a,aa,e,aa,b];dsimp only;rw[sQ,sQ];have hlen:((l.take i).map iT).length<=10000:=by rw[sR,fT];omega
  cases j:(bE x).2.2 with
  | false=>rfl
  | true =>
    rw[aE,af,bP (by simp only[dh,eG];omega),ab,g j];have:(l.take<|i+1).map iT=(l.take i).map iT++[iT x]:=by rw[Ba,a,xE];rfl
    rw[this];rfl) (by
  unfold fG;dsimp only;rw[aC,af,sQ,wI]) with ⟨i,x,a,k,_,h⟩|⟨m,h⟩
 .rw[show Loop (fG (l,())) ((([]:List Stp),false,(),(0:Int),()),([]:List Stp),())=_ from h,aa,Wj a k];rfl
 .rw[show Loop (fG (l,())) ((([]:List Stp),false,(),(0:Int),()),([]:List Stp),())=_ from h,aa,aaZ m];rfl
theorem Ad(l:List Pt)(c:Sv l):oE (l,())=some (jF l,()):=by
 unfold oE;have j:=c.1;rcases pT (f:=nQ (l,())) l (λi=>((false,i,()),())) (λ_ x=>!(bE x).2.2) (λi _=>(1,(false,(i:Int),()),())) (0,(false,(l.length:Int),()),()) (by omega) (λi x b d a=>by
  unfold nQ;dsimp only;rw[aq d,ab,ar b,aa,Aa x (c.2 x<|eF b),aa,a];dsimp only;cases (bE x).2.2<;>rfl) (by
  unfold nQ;dsimp only;rw[aC,af]) with ⟨i,x,b,e,_,h⟩|⟨g,h⟩
 .rw[h,aa,Wj b e];rfl
 .rw[h,aa,aaZ g];rfl
theorem NX{l:List Nd}{g:Nd->Bool}{i:Nat}{x:Nd}(b:l[i]?=some x)(c:g x=true)(d:∀(j:Nat) y,j<i->l[j]?=some y->g y=false):l.take i=(l.take<|i+1).filter (λx=>!g x):=by
 rw[Ba,b,MS];have e:(l.take i).filter (λx=>!g x)=l.take i:=Im.2 λy f=>by
  obtain⟨j,a⟩:=bR.1 f;rw[fA] at a;split at a
  .rw[d j y (by omega) a];rfl
  .cases a
 rw[e];simp[c]
theorem Ya(l:List Nd)(p:ao)(a:yU l)(c:p.length<=4096):(∃i x,l[i]?=some x/\gone p x=true/\(∀(j:Nat) y,j<i->l[j]?=some y->gone p y=false)/\Loop (hY (l,p,())) ((0,0,()),(),p,())=some (1,((i:Int),(i:Int),()),(),p,())) \/
  ((∀(i:Nat) x,l[i]?=some x->gone p x=false)/\Loop (hY (l,p,())) ((0,0,()),(),p,())=some (0,(0,(l.length:Int),()),(),p,())) :=
 pT (f:=hY (l,p,())) l (λi=>((0,i,()),(),p,())) (λ_ x=>gone p x) (λi x=>(1,((i:Int),(i:Int),()),(),p,())) (0,(0,(l.length:Int),()),(),p,()) (by have:=a.1;omega) (λi x b d e=>by
  unfold hY;dsimp only;rw[aq d,ab,aU (by omega) (by unfold len;omega),ab,ar b,aa,xr _ _ (by have:=(a.at b).1;omega) c,aa,AP,e];unfold gone;cases decide (x.1=p)<;>cases ca (parts x.1) (parts p)<;>rfl) (by unfold hY;dsimp only;rw[aC,af])
theorem Yb(l:List Nd)(p:ao)(g:yU l)(k:p.length<=4096)(i:Nat)(x:Nd)(a:l[i]?=some x)(m:gone p x=true)(b:∀(j:Nat) y,j<i->l[j]?=some y->gone p y=false) :
  ∃(w:Nat) (L:List Nd),Loop (ku) (((i:Int),aB IntKind.i64 (i:Int) 1,(),()),(),p,l,())=some (((w:Int),(l.length:Int),(),()),(),p,L,())/\L.length=l.length/\w<=l.length/\L.take w=mB l p:=by
 have hi:=aD a;have u:=g.1;obtain⟨w,L,n,h,o,q⟩:=Ea (f:=ku) l (gone p) (λw j L=>((w,j,(),()),(),p,L,())) (λw L=>((w,(L.length:Int),(),()),(),p,L,())) (by omega) (λw j L x a c v r s b=>by
  unfold ku;dsimp only;have d:w<L.length:=by omega
  obtain⟨z,t⟩:∃z,L[w]?=some z:=⟨_,gH d⟩;have e:aj (nt<|bw x.1 p) (ae (cW (x.1,p,())) λ(y:Bool×ah)=>some y.1) (some true)=some (gone p x):=by
   rw[xr _ _ (by have:=(g.at a).1;omega) k,aa,AP];unfold gone;cases decide (x.1=p)<;>rfl
  rw[aq r,ab,aU (by omega) (by unfold len;omega),ab,ar c,aa,e,aa,b];cases gone p x with
  | true=>rfl
  | false =>
    rw[az,ab,aU (by omega) (by unfold len;omega),ab,ar t,aa,aa,aa,aa,s,gD];rfl) (λw L=>by
  unfold ku;dsimp only;rw[aC,af];rfl) l.length i (i+1) l (by omega) (by omega) (by omega) rfl (NX a m b) rfl
 refine⟨w,L,?_,h,o,q⟩;rw[aK<|by omega,n,h]
theorem UW(l:List Nd)(p:ao)(a:yU l)(d:p.length<=4096)(f:Valid l):rP (l,p,())=some (mB l p,()):=by
 obtain⟨e,g,k⟩:=pv l a;obtain rfl:=k.2 f;unfold rP;dsimp only;rw[g,aa];dsimp only;rw[show nt (aZ 0 0)=false by rfl,af,lO (by have:=a.1;omega),ab];rcases Ya l p a d with ⟨i,x,b,m,c,h⟩|⟨c,h⟩
 .obtain⟨w,L,n,s,t,o⟩:=Yb l p a d i x b m c;rw[h,aa];dsimp only;rw[eC,af,show aZ (i:Int) (-1)=false by unfold aZ;exact cU (by omega),af,n,aa];dsimp only;rw[aP (by omega) (by unfold len;omega)<|qJ _,ab,Eb L w (by omega),aP (qJ _) (by omega) (by omega),ab,zX L w (by omega),o]
 .have q:mB l p=l:=Im.2 λx b=>by
   obtain⟨j,r⟩:=bR.1 b;rw[c j x r];rfl
  rw[h,aa,q];dsimp only;rw[bV,ab,show aZ (-1) (-1)=true by rfl,ab]
def FH(p:ao)(x:Nd):Bool:=ca (parts x.1) (parts p)
theorem Yc(l:List Nd)(p:ao)(a:yU l)(c:p.length<=4096):(∃i x,l[i]?=some x/\FH p x=true/\(∀(j:Nat) y,j<i->l[j]?=some y->FH p y=false)/\Loop (jb (l,p,())) ((0,0,()),(),p,())=some (1,((i:Int),(i:Int),()),(),p,())) \/
  ((∀(i:Nat) x,l[i]?=some x->FH p x=false)/\Loop (jb (l,p,())) ((0,0,()),(),p,())=some (0,(0,(l.length:Int),()),(),p,())) :=
 pT (f:=jb (l,p,())) l (λi=>((0,i,()),(),p,())) (λ_ x=>FH p x) (λi x=>(1,((i:Int),(i:Int),()),(),p,())) (0,(0,(l.length:Int),()),(),p,()) (by have:=a.1;omega) (λi x b d e=>by
  unfold jb;dsimp only;rw[aq d,ab,aU (by omega) (by unfold len;omega),ab,ar b,aa,xr _ _ (by have:=(a.at b).1;omega) c,aa,e];unfold FH;cases ca (parts x.1) (parts p)<;>rfl) (by unfold jb;dsimp only;rw[aC,af])
theorem Yd(l:List Nd)(p:ao)(e:yU l)(h:p.length<=4096)(i:Nat)(x:Nd)(a:l[i]?=some x)(k:FH p x=true)(b:∀(j:Nat) y,j<i->l[j]?=some y->FH p y=false) :
  ∃(w:Nat) (L:List Nd),Loop (lH) (((i:Int),aB IntKind.i64 (i:Int) 1,(),()),(),p,l,())=some (((w:Int),(l.length:Int),(),()),(),p,L,())/\L.length=l.length/\w<=l.length/\L.take w=l.filter (λx=>!FH p x):=by
 have hi:=aD a;have t:=e.1;obtain⟨w,L,m,g,n,o⟩:=Ea (f:=lH) l (FH p) (λw j L=>((w,j,(),()),(),p,L,())) (λw L=>((w,(L.length:Int),(),()),(),p,L,())) (by omega) (λw j L x a c u q r b=>by
  unfold lH;dsimp only;have d:w<L.length:=by omega
  obtain⟨z,s⟩:∃z,L[w]?=some z:=⟨_,gH d⟩;rw[aq q,ab,aU (by omega) (by unfold len;omega),ab,ar c,aa,xr _ _ (by have:=(e.at a).1;omega) h,aa,b];unfold FH;cases ca (parts x.1) (parts p) with
  | true=>rfl
  | false =>
    rw[az,ab,aU (by omega) (by unfold len;omega),ab,ar s,aa,aa,aa,aa,r,gD];rfl) (λw L=>by
  unfold lH;dsimp only;rw[aC,af];rfl) l.length i (i+1) l (by omega) (by omega) (by omega) rfl (NX a k b) rfl
 refine⟨w,L,?_,g,n,o⟩;rw[aK<|by omega,m,g]
theorem Kt(l:List Nd)(p:ao):gE l p false=l.filter (λx=>!FH p x):=by
 unfold gE FH
 congr 1
 funext x;cases ca (parts x.1) (parts p)<;>rfl
theorem Ye(l:List Nd)(p:ao)(a:yU l)(d:p.length<=4096)(f:Valid l):tF (l,p,())=some (gE l p false,()):=by
 obtain⟨e,g,k⟩:=pv l a;obtain rfl:=k.2 f;rw[Kt];unfold tF;dsimp only;rw[g,aa];dsimp only;rw[show nt (aZ 0 0)=false by rfl,af,lO (by have:=a.1;omega),ab];rcases Yc l p a d with ⟨i,x,b,m,c,h⟩|⟨c,h⟩
 .obtain⟨w,L,n,s,t,o⟩:=Yd l p a d i x b m c;rw[h,aa];dsimp only;rw[eC,af,show aZ (i:Int) (-1)=false by unfold aZ;exact cU (by omega),af,n,aa];dsimp only;rw[aP (by omega) (by unfold len;omega)<|qJ _,ab,Eb L w (by omega),aP (qJ _) (by omega) (by omega),ab,zX L w (by omega),o]
 .have q:l.filter (λx=>!FH p x)=l:=Im.2 λx b=>by
   obtain⟨j,r⟩:=bR.1 b;rw[c j x r];rfl
  rw[h,aa,q];dsimp only;rw[bV,ab,show aZ (-1) (-1)=true by rfl,ab]
theorem Sw(l:List Nd)(p:ao)(c:yU l)(d:Valid l):tE (l,p,())=some (findF l p):=by
 obtain⟨e,f,j⟩:=rr l c;obtain rfl:=j.2 d;unfold tE;dsimp only;rcases zW l p c with ⟨i,x,g,a,h⟩|⟨b,h⟩
 .rw[h,aa,f,aa];dsimp only;rw[aA<|by omega,ar g,Cx d.ord (eF g) a];rfl
 .rw[h,aa,f,aa,Ki b];rfl
theorem UX{n:Nd}(h:eS n=true):n.1.length<=92/\n.2.2.2.2.1.length<=100/\n.2.2.2.1.length<=8192:=by
 unfold eS at h;simp only[dv] at h;have b:=h.1.1.1;have a:=h.2;unfold uT at b;simp only[dv,nE] at b;refine⟨b.1.1.2,?_⟩;unfold NQ at a;split at a
 .have:=kH a;exact⟨by rw[this.1];simp,this.2⟩
 .split at a
  .have:=kH a;exact⟨by rw[this.1];simp,by rw[this.2];simp⟩
  .split at a
   .have:=kH a;exact⟨this.2.2.1,by rw[this.1];simp⟩
   .cases a
theorem kE{l:List Nd}(h:Valid l):yU l:=⟨by have:=h.few;omega,λx a=>by
 have:=UX (h.may x a);exact⟨by omega,by omega,by omega⟩⟩
theorem Sx{l:List Nd}(h:Valid l)(p:ao):Valid (mB l p):=by
 refine⟨fM (MN _ _) h.few,h.ord.filter _,λx d=>h.may x (vX.1 d).1,λx d=>?_⟩;obtain⟨f,b⟩:=vX.1 d;by_cases c:(bc x.1).1=[]
 .exact .inl c
 .rcases h.up x f with g|⟨y,i,e,k⟩
  .exact absurd g c
  .refine .inr ⟨y,vX.2 ⟨i,?_⟩,e,k⟩;cases a:gone p y with
   | false=>rfl
   | true =>
     have:gone p x=true:=by
      unfold gone at a⊢;rw[wJ] at a⊢;rcases a with a|a
      .right;rw[<-kH a,e];exact Cy c
      .exact .inr (Kk c e a)
     rw[this] at b;cases b
theorem Ku{l:List Nd}(h:Valid l)(p:ao):Valid (gE l p false):=by
 refine⟨fM (MN _ _) h.few,h.ord.filter _,λx b=>h.may x (vX.1 b).1,λx b=>?_⟩;obtain⟨c,a⟩:=vX.1 b;by_cases d:(bc x.1).1=[]
 .exact .inl d
 .rcases h.up x c with f|⟨y,g,e,k⟩
  .exact absurd f d
  .refine .inr ⟨y,vX.2 ⟨g,?_⟩,e,k⟩;cases i:ca (parts y.1) (parts p) with
   | false=>rfl
   | true =>
     rw[Kk d e i] at a;cases a
theorem PL(l:List Nd)(p:ao):gE l p true=mB l p:=by
 unfold gE mB gone
 congr 1
 funext x;cases decide (x.1=p)<;>cases ca (parts x.1) (parts p)<;>rfl
theorem uX(p:Pt):FD (bE p).2.1:=by
 have a:FD []:=⟨λx c=>(by cases c),(by simp),(by simp[aF])⟩;unfold bE;split
 .rename_i b;dsimp only;split
  .rename_i d;exact(FE b d).2
  .split
   .exact A1 (z8 b)
   .split
    .exact z8 b
    .exact a
 .exact a
def sN(t:List Nd)(p:Pt):List Nd:=if(bE p).1=1 then mB t (aF (bE p).2.1) else if(bE p).1=2 then gE t (aF (bE p).2.1) false else t
theorem uY{t:List Nd}(h:Valid t)(p:Pt):Valid (sN t p):=by
 unfold sN;split
 .exact Sx h _
 .split
  .exact Ku h _
  .exact h
theorem Ma{t:List Nd}(h:Valid t)(p:Pt):qk (iT p,t,())=some (sN t p,()):=by
 have a:=uX p;have d:=kE h;unfold qk iT Wi sN;dsimp only;by_cases b:(bE p).1=1
 .rw[aV b,aV b];show iN _=_
  unfold iN;dsimp only;rw[UW t _ d (by have:=a.2.2;omega) h,aa]
 .rw[aX b,aX b];by_cases c:(bE p).1=2
  .rw[aV c,aV c];show gi _=_
   unfold gi;dsimp only;rw[Ye t _ d (by have:=a.2.2;omega) h,aa]
  .rw[aX c,aX c];by_cases e:(bE p).2.1=[]
   .rw[aV e];rfl
   .rw[aX e];rfl
theorem Kv{t:List Nd}(h:Valid t)(p:ao)(a:p.length<=4096):qi (t,p,())=some (mB t p,()):=by
 obtain⟨b,c,d⟩:=rr t (kE h);unfold qi;dsimp only;rw[c,aa,d.2 h];dsimp only;rw[aE,af,zY t p true (kE h) a,aa,PL]
theorem Mb{t:List Nd}(h:Valid t)(p:ao)(a:p.length<=4096):rQ (t,p,())=some (gE t p false,()):=by
 obtain⟨b,c,d⟩:=rr t (kE h);unfold rQ;dsimp only;rw[c,aa,d.2 h];dsimp only;rw[aE,af,zY t p false (kE h) a,aa]
theorem NY{a c:Type}(f:c->a->c)(l:List a)(b:c){i:Nat}{x:a}(d:l[i]?=some x):(l.take<|i+1).foldl f b=f ((l.take i).foldl f b) x:=by
 rw[Ba,d,List.foldl_append];rfl
theorem UY(l:List Pt)(e:Bool)(a:List Nd)(h:Valid a)(m:l.length<=10000):Loop (kv (l.map iT,e,())) ((a,(0:Int),()),())=some ((l.foldl sN a,(l.length:Int),()),())/\Valid (l.foldl sN a):=by
 obtain⟨t,c,j,_⟩:=AV (f:=kv (l.map iT,e,())) l (λ(t:List Nd) i=>((t,i,()),())) (λt _ x=>sN t x) (λt=>((t,(l.length:Int),()),())) (λt i=>t=(l.take i).foldl sN a/\Valid t) (by omega) (λt i x g k b d=>by
  have hy:(l.map iT)[i]?=some (iT x):=by rw[wH,g];rfl
  constructor
  .unfold kv;dsimp only;rw[aq<|show i<(l.map iT).length by rw[sR];exact k,ab,ar hy,aa,b];rw[show qk (iT x,t,())=_ from Ma d.2 x,aa];rfl
  .exact⟨by rw[NY sN l a g,<-d.1],uY d.2 x⟩) (λt _=>by
  unfold kv;dsimp only;rw[show ba (l.length:Int) (len<|l.map iT)=false by rw[<-sR (f:=iT)];exact aC,af];rfl) a ⟨rfl,h⟩
 rw[wI] at c;rw[<-c.1];exact⟨j,c.2⟩
theorem Mc(a:List Nd)(l:List Pt)(j:Sv l)(m:Valid a):Loop (nh (a,l,())) ((a,(0:Int),()),())=some ((l.foldl sN a,(l.length:Int),()),()):=by
 have n:=j.1;obtain⟨t,k,b,_⟩:=AV (f:=nh (a,l,())) l (λ(t:List Nd) i=>((t,i,()),())) (λt _ x=>sN t x) (λt=>((t,(l.length:Int),()),())) (λt i=>t=(l.take i).foldl sN a/\Valid t) (by omega) (λt i x h o c e=>by
  have d:=uX x;constructor
  .unfold nh;dsimp only;rw[aq o,ab,ar h,aa,Aa x (j.2 x<|eF h),aa,c];dsimp only;rw[Kv e.2 _ (by have:=d.2.2;omega),aa,Mb e.2 _ (by have:=d.2.2;omega),aa];unfold sN;by_cases b:(bE x).1=1
   .rw[aT b,aV b];rfl
   .rw[aN b,aX b];by_cases g:(bE x).1=2
    .rw[aT g,aV g];rfl
    .rw[aN g,aX g];rfl
  .exact⟨by rw[NY sN l a h,<-e.1],uY e.2 x⟩) (λt _=>by
  unfold nh;dsimp only;rw[aC,af];rfl) a ⟨rfl,m⟩
 rw[wI] at k;rw[<-k.1];exact b
end Go.Ge
