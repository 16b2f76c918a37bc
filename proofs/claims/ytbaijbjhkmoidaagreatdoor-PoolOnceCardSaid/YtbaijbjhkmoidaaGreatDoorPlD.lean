/- Plain laws of what the functions compute: part 4. -/
import Derived.Test.YtbaijbjhkmoidaaGreatDoorPlC
set_option linter.unusedSectionVars false
set_option linter.unusedVariables false
set_option linter.unusedSimpArgs false
noncomputable section
namespace Go.Ge
variable [Lp]
abbrev Pq:=(ah×ah×ah)×(ah×ah×ah×ah)×(ah×Int×ah)×(ah×ah×ah)×(ah×ah×ah)×List Od×List (Int×Int×ah)×(Int×Int×ah×ah)×List Hn×(Int×Int×ah×ah)×List Hn×List Nd×List Nd×ah
def wT(w:Wd):Pq:=(((),(),()),((),(),(),()),((),w.2.1.2.1,()),((),(),()),((),(),()),w.1.2.2.1,w.2.1.1,(w.1.1.1.1,w.1.1.1.2.1,(),()),w.1.1.2.1,(w.1.2.1.1.1,w.1.2.1.1.2.1,(),()),w.1.2.1.2.1,w.1.1.1.2.2.1,w.1.2.1.1.2.2.1,())
abbrev G7:=(Bool×ah×Int×Int×ah)×List Ix×Pq
def lays(a:List TK):List Ix:=a.map λp=>Ly p.1 p.2
theorem AG{a:List TK}(m:nw a)(c:G7)(n:c.2.1=lays a)(t:Tx){k:Nat}(v:k<40) :
  (∃(i:Nat) (p:TK),a[i]?=some p/\eG p=jN t k/\Loop (dz c) (((0:Int),(0:Int),()),jN t k,())=some (1,((i:Int),(i:Int),()),jN t k,())) \/
   (¬IB a t k/\∃j:Int,Loop (dz c) (((0:Int),(0:Int),()),jN t k,())=some (0,((0:Int),j,()),jN t k,())):=by
 have r:=Lh t k;have g:(lays a).length=a.length:=by unfold lays;rw[p5]
 have hlen:=m.len;rcases KU (f:=dz c) a (λj=>(((0:Int),j,()),jN t k,())) (λ_ p=>decide (eG p=jN t k)) (λi _=>(1,((i:Int),(i:Int),()),jN t k,())) (0,((0:Int),(a.length:Int),()),jN t k,()) (by omega)
  (λi x d o b=>by
   have s:=m.small x (od d);have h:(lays a)[i]?=some (Ly x.1 x.2):=by unfold lays;rw[sH,d];rfl
   unfold dz;dsimp only;rw[n,dt (by omega),ae,show within (i:Int) (len<|lays a)=true from aT (by omega) (by rw[cX];omega),ae];refine ob (bb h) ?_;rw[show(Ly x.1 x.2).2.2.2.2.2.2.1=true from rfl,ae,eP r,cM,ae];refine ob (j0 x.1 (k:=x.2)<|by omega) ?_;dsimp only;by_cases q:eG x=jN t k
   .rw[iV<|show jN x.1 x.2=jN t k from q,ae,oe q];rfl
   .rw[eP<|show jN x.1 x.2≠jN t k from q,af,uc q,b];rfl)
  (by
   unfold dz;dsimp only;rw[n,<-g,cP,af]) with ⟨i,x,d,l,w,e⟩|⟨u,e⟩
 .exact .inl ⟨i,x,d,yW l,e⟩
 .refine .inr ⟨?_,_,e⟩;rintro⟨p,l,e⟩;obtain⟨i,o⟩:=FU.1 l;have:=u i p o;rw[oe e] at this;cases this
def LR(R:List Bl):List Dn:=R.flatMap qP
theorem B9(b:Bl)(R:List Bl):LR (b::R)=qP b++LR R:=by unfold LR;rw[Cz]
theorem l5:∀R:List Bl,(LR R).length=3*R.length
 | []=>rfl
 | b::R=>by rw[B9,l9,l5 R,gA];show 3+_=_;omega
theorem Oi(a R:List Bl):LR (a++R)=LR a++LR R:=by unfold LR;rw[List.flatMap_append]
theorem yz(a:List Bl)(b:Bl)(R:List Bl){j:Nat}(c:j<3):(LR (a++b::R))[3*a.length+j]?=(qP b)[j]?:=by
 rw[Oi,B9,Ep (by rw[l5];omega),l5,Ct (by show _<3;omega)]
 congr 1;omega
def Ca(r:Int×Bool×Int×Int×ah)(t:Tx)(n:Nat)(L:List Dn)(a:Int)(b c:Bool)(d:oa):(Int×Bool×Int×Int×ah)×Q3×(Bool×ah×Int×Bool×Bool×oa×ah)×List Dn×ah :=
 (r,Oh t n,(true,(),a,b,c,d,()),L,())
def wB(k:Nat):Int×Bool×Int×Int×ah:=((0:Int),false,(0:Int),(k:Int),())
theorem Lk{b:List TK}(f:nw b)(c:G7)(g:c.2.1=lays b){t:Tx}(o:t.length<=100){k:Nat}(q:k<=12)(l:¬IB b t k)(n:Nat)(L:List Dn)(a:Int)(d:oa) :
  bF c t (Ca (wB k) t n L a false false d)=some (.inr (1,Ca ((k:Int),false,(0:Int),(k:Int),()) t (n+1) L a false false d)):=by
 rcases AG f c g t (k:=k) (by omega) with ⟨i,p,m,e,_⟩|⟨_,j,h⟩
 .exact absurd ⟨p,od m,e⟩ l
 unfold bF Ca wB;dsimp only;rw[bR<|by omega,ae];refine ob (lR t (by omega) n) ?_;refine ob (j0 t<|by omega) ?_;refine ob h ?_;dsimp only;rw[show n9 0 0=true from rfl,ae]
theorem Cb{f:List TK}(v:nw f)(j:G7)(l:j.2.1=lays f){t:Tx}(z:t.length<=100){k:Nat}(A:k<=12)(w:IB f t k)(n:Nat)(L:List Dn)(a:Nat)(d:oa) :
  ∃p,p∈f/\eG p=jN t k /\
   ((gB p.1≠gB t\/p.1.length≠t.length)->bF j t (Ca (wB k) t n L a false false d)=some (.inl<|Ca (wB<|k+1) t (n+2) L a false false d)) /\
   (gB p.1=gB t->p.1.length=t.length ->
    (∀g,dM ((Ly p.1 p.2,()),tX L a false false d,())=some ((p.1,0,()),tX L g false false d,()) ->
     bF j t (Ca (wB k) t n L a false false d)=if p.1=t then some (.inr (1,Ca ((k:Int),true,(0:Int),(k:Int),()) t (n+2) L g false false d)) else some (.inl<|Ca (wB<|k+1) t (n+2) L g false false d)) /\
    (∀g o,dM ((Ly p.1 p.2,()),tX L a false false d,())=some (([],14,()),tX L g true true o,()) ->
     bF j t (Ca (wB k) t n L a false false d)=some (.inr (1,Ca ((0:Int),false,(14:Int),(k:Int),()) t (n+2) L g true true o)))):=by
 rcases AG v j l t (k:=k) (by omega) with ⟨i,p,r,e,h⟩|⟨x,_⟩
 rotate_left
 .exact absurd w x
 have B:=cE r;have y:(lays f).length=f.length:=by unfold lays;rw[p5]
 have b:(lays f)[i]?=some (Ly p.1 p.2):=by unfold lays;rw[sH,r];rfl
 have s:within (i:Int) (len<|lays f)=true:=aT (by omega) (by rw[cX];omega);have c:aK .i64 (k:Int) 1=((k+1:Nat):Int):=bB (by omega);refine⟨p,od r,e,?_,?_⟩
 .intro m;unfold bF Ca wB;dsimp only;rw[bR<|by omega,ae];refine ob (lR t (by omega) n) ?_;refine ob (j0 t<|by omega) ?_;refine ob h ?_;dsimp only;rw[show n9 1 0=false from rfl,af,aN (by omega),af,l,s,ae];refine ob (bb b) ?_;refine ob (lR t (by omega)<|n+1) ?_;dsimp only;by_cases q:gB p.1=gB t
  .rw[iV<|show(Ly p.1 p.2).2.2.2.1=gB t from q,cg,af,ae];refine ob (bb b) ?_;have C:¬p.1.length=t.length:=by rcases m with h|h;exact absurd q h;exact h
   rw[show aQ (Ly p.1 p.2).2.2.2.2.1 (@len UInt8 t)=false from cc (by show(p.1.length:Int)≠t.length;omega),cM,ae,c]
  .rw[eP<|show(Ly p.1 p.2).2.2.2.1≠gB t from q,cM,ae,c]
 .intro m D;refine⟨λg u=>?_,λg o u=>?_⟩
  .unfold bF Ca wB;dsimp only;rw[bR<|by omega,ae];refine ob (lR t (by omega) n) ?_;refine ob (j0 t<|by omega) ?_;refine ob h ?_;dsimp only;rw[show n9 1 0=false from rfl,af,aN (by omega),af,l,s,ae];refine ob (bb b) ?_;refine ob (lR t (by omega)<|n+1) ?_;dsimp only;rw[iV<|show(Ly p.1 p.2).2.2.2.1=gB t from m,cg,af,ae];refine ob (bb b) ?_;rw[show aQ (Ly p.1 p.2).2.2.2.2.1 (@len UInt8 t)=true from fL (by show(p.1.length:Int)=t.length;omega),cg,af,ae];refine ob (bb b) ?_;refine ob u ?_;dsimp only[tX];rw[show nt (aQ (0:Int) 0)=false from rfl,af];by_cases q:p.1=t
   .rw[iV q,ae,bH q]
   .rw[eP q,af,bp q,c]
  .unfold bF Ca wB;dsimp only;rw[bR<|by omega,ae];refine ob (lR t (by omega) n) ?_;refine ob (j0 t<|by omega) ?_;refine ob h ?_;dsimp only;rw[show n9 1 0=false from rfl,af,aN (by omega),af,l,s,ae];refine ob (bb b) ?_;refine ob (lR t (by omega)<|n+1) ?_;dsimp only;rw[iV<|show(Ly p.1 p.2).2.2.2.1=gB t from m,cg,af,ae];refine ob (bb b) ?_;rw[show aQ (Ly p.1 p.2).2.2.2.2.1 (@len UInt8 t)=true from fL (by show(p.1.length:Int)=t.length;omega),cg,af,ae];refine ob (bb b) ?_;refine ob u ?_;dsimp only[tX];rw[show nt (aQ (14:Int) 0)=true from rfl,ae]
theorem AH{P:List TK}(J:nw P)(C:G7)(N:C.2.1=lays P){t:Tx}(O:t.length<=100)(x:oa){k:Nat}{R:List Bl}{r:Nat×Bool}(D:Tr P t k R r) :
  ∀(a:List Bl) (n i:Nat) (L:List Dn),L=(LR<|a++R).take i->3*a.length<=i->i<=3*(a++R).length->(a++R).length<=100 ->
   (i=3*(a++R).length->∃s u,Loop (bF C t) (Ca (wB k) t n L (3*a.length:Nat) false false x)=some (1,Ca ((r.1:Int),r.2,(0:Int),u,()) t s L (i:Int) false false x)) /\
   (i<3*(a++R).length->∃s u o y,(LR<|a++R)[i]?=some (o,y,())/\Loop (bF C t) (Ca (wB k) t n L (3*a.length:Nat) false false x)=some (1,Ca ((0:Int),false,(14:Int),u,()) t s L (i:Int) true true o)):=by
 induction D with
 | @none k E hn =>
   intro a n i L m z f c;rw[ua] at f⊢;obtain rfl:i=3*a.length:=by omega
   refine⟨λ_=>⟨n+1,(k:Int),?_⟩,λh=>absurd h (Nat.lt_irrefl _)⟩;rw[bm,Lk J C N O E hn];rfl
 | @skip k R r E K hs D Q =>
   intro a n i L m z f c;obtain⟨p,F,e,h2,_⟩:=Cb J C N O E K n L (3*a.length) x;have b:=h2 (hs p F e);obtain⟨A,B⟩:=Q a (n+2) i L m z f c;refine⟨λh=>?_,λh=>?_⟩
   .obtain⟨s,u,G⟩:=A h;exact⟨s,u,by rw[bm,b];exact G⟩
   .obtain⟨s,u,o,y,g,G⟩:=B h;exact⟨s,u,o,y,g,by rw[bm,b];exact G⟩
 | @hit k E K hs =>
   intro a n i L m z f c;obtain⟨p,F,e,_,S⟩:=Cb J C N O E K n L (3*a.length) x;have d:=hs p F e;have T:=J.small p F;have M:(jN p.1 p.2,p.1)=(jN t k,t):=by rw[show jN p.1 p.2=jN t k from e,d]
   obtain⟨U,V⟩:=S (by rw[d]) (by rw[d]);have W:(a++[(jN t k,t)]).length=a.length+1:=by simp
   have v:L.length<=1000:=by rw[m,fj,l5];omega
   have w:∀j,j<3->3*a.length+j<i->L[3*a.length+j]?=(qP (jN p.1 p.2,p.1))[j]?:=by
    intro j l H;rw[m,kK,bH H,yz _ _ _ l,M]
   refine⟨λh=>⟨n+2,(k:Int),?_⟩,λh=>?_⟩
   .have I:=yx L (3*a.length) p.1 p.2 x (by omega) (by omega) v (λj l=>w j l (by omega));have:=U _ I;rw[bH d] at this;rw[bm,this,show i=3*a.length+3 by omega];rfl
   .obtain⟨j,rfl⟩:∃j,i=3*a.length+j:=⟨i-3*a.length,by omega⟩;have l:j<3:=by omega
    obtain⟨o,y,g,I⟩:=yy L (3*a.length) j p.1 p.2 x (by omega) v l (by rw[m,fj,l5];omega) (λi hi=>w i (by omega) (by omega));refine⟨n+2,(k:Int),o,y,by rw[yz _ _ _ l,<-M];exact g,?_⟩;rw[bm,V _ o I];rfl
 | @MU k q R r E K hs X Y Z D Q =>
   intro a n i L m z f c;obtain⟨p,F,e,_,S⟩:=Cb J C N O E K n L (3*a.length) x;have d:=hs p F e;have T:=J.small p F;have M:(jN p.1 p.2,p.1)=(jN t k,q):=by rw[show jN p.1 p.2=jN t k from e,d]
   obtain⟨U,V⟩:=S (by rw[d];exact Y) (by rw[d];exact Z);have W:(a++(jN t k,q)::R).length=a.length+1+R.length:=by simp;omega
   have v:L.length<=1000:=by rw[m,fj,l5];omega
   have w:∀j,j<3->3*a.length+j<i->L[3*a.length+j]?=(qP (jN p.1 p.2,p.1))[j]?:=by
    intro j l H;rw[m,kK,bH H,yz _ _ _ l,M]
   by_cases T6:3*a.length+3<=i
   .have I:=yx L (3*a.length) p.1 p.2 x (by omega) (by omega) v (λj l=>w j l (by omega));have b:=U _ I;rw[bp<|by rw[d];exact X] at b;have hR:a++(jN t k,q)::R=(a++[(jN t k,q)])++R:=by simp
    have TF:3*(a++[(jN t k,q)]).length=3*a.length+3:=by simp;omega
    rw[hR] at m f c⊢;obtain⟨A,B⟩:=Q (a++[(jN t k,q)]) (n+2) i L m (by omega) f c;rw[TF] at A B;refine⟨λh=>?_,λh=>?_⟩
    .obtain⟨s,u,G⟩:=A h;exact⟨s,u,by rw[bm,b];exact G⟩
    .obtain⟨s,u,o,y,g,G⟩:=B h;exact⟨s,u,o,y,g,by rw[bm,b];exact G⟩
   .obtain⟨j,rfl⟩:∃j,i=3*a.length+j:=⟨i-3*a.length,by omega⟩;have l:j<3:=by omega
    obtain⟨o,y,g,I⟩:=yy L (3*a.length) j p.1 p.2 x (by omega) v l (by rw[m,fj,l5];omega) (λi hi=>w i (by omega) (by omega));refine⟨λh=>absurd h (by omega),λh=>⟨n+2,(k:Int),o,y,by rw[yz _ _ _ l,<-M];exact g,?_⟩⟩;rw[bm,V _ o I];rfl
def WB(h:Option Int)(B:List Bl)(n:Nat)(w:Wd):Prop:=∃m f b a,w=wd f b a/\FB h B m f/\a.length<=n
theorem yA{h h':Option Int}{B B':List Bl}{n:Nat}{w:Wd}(k:WB h B n w)(v:n<=1000)(a:oa)(r:Rs)(l:r.1=0)(d:aQ a.1 14=false)(e:aQ a.1 15=false)(o:aQ a.1 6=false)(p:aQ a.1 9=false)(g:aQ a.1 13=false)
  (q:∀m f,FB h B m f->∃i c,bu ((1,a,()),f,())=some ((r,()),c,())/\FB h' B' i c) :
  ∃w',aG ((1,a,()),w,())=some ((r,()),w',())/\WB h' B' (n+1) w':=by
 obtain⟨m,f,b,j,rfl,s,x⟩:=k;obtain⟨i,c,t,u⟩:=q m f s;exact⟨wd c b<|j++[MN a],G4 f c b j a r t l d e o p g (by omega),i,c,b,_,rfl,u,by rw[l9,p4];omega⟩
theorem MV(f b:Fs)(c:List Od)(a:oa)(r:Rs)(h:bu ((1,a,()),f,())=some ((r,()),f,()))(g:r.1=0)(d:aQ a.1 14=false)(e:aQ a.1 15=false)(i:aQ a.1 6=true) :
  aG ((1,a,()),wd f b c,())=some ((r,()),wd f b c,()):=by
 have j:ft ((1,a,()),(f,b,c,()),())=some ((r,()),(f,b,c,()),()):=by
  unfold ft;dsimp only;rw[d,af];refine ob h ?_;dsimp only;rw[i,fL g,show av true (nt<|av (nt<|av (nt true) (aQ a.1 9) true) (aQ a.1 13) true) false=false from rfl,af];rfl
 unfold aG;refine ob Lc ?_;dsimp only;rw[show nt (aQ (0:Int) 0)=false from rfl,af,e,af];exact ob j rfl
structure Ny (B:List Bl):Prop where
 n:B.length<=12
 nm:∀b∈B,vU b.1
 data:∀b∈B,b.2.length<=100
theorem Ll{B:List Bl}(g:Ny B){b:Bl}(h:b∈B){n:Nat}{w:Wd}(r:WB none B n w)(x:n+2<=1000) :
  ∃a e,aG ((1,qO b.1,()),w,())=some ((jT 1,()),a,())/\aG ((1,sC,()),a,())=some ((FX b.2,()),a,()) /\
   aG ((1,my,()),a,())=some ((jT 0,()),e,())/\WB none B (n+2) e:=by
 obtain⟨i,j⟩:=FU.1 h;have y:=g.n;have z:=g.data b h;obtain⟨a,s,d⟩:=yA (h':=some ((i:Int)+3)) (B':=B) r (by omega) (qO b.1) (jT 1) rfl rfl rfl rfl rfl rfl (λm f k=>by
  obtain⟨l,o,p⟩:=Pn k (by omega) j (g.nm b h) (by omega);exact⟨m,l,o,p⟩)
 obtain⟨e,t,q⟩:=yA (h':=none) (B':=B) d (by omega) my (jT 0) rfl rfl rfl rfl rfl rfl (λm f k=>by
  obtain⟨l,o,p⟩:=Lb k (by omega) j (by omega);exact⟨m,l,o,p⟩)
 refine⟨a,e,s,?_,t,q⟩;obtain⟨m,f,c,u,rfl,v,_⟩:=d;exact MV f c u sC (FX b.2) (Po v (by omega) j<|by omega) rfl rfl rfl rfl
theorem qQ{B:List Bl}(g:Ny B):∀(R:List Bl),(∀b∈R,b∈B)->∀(n:Nat) (w:Wd),WB none B n w->n+2*R.length<=1000 ->
  ∃a:Nat->Wd,a 0=w/\(∀i o r,(LR R)[i]?=some (o,r,())->qJ r/\aG ((1,o,()),a i,())=some ((r,()),a<|i+1,()))/\WB none B (n+2*R.length) (a<|3*R.length)
 | [],_,n,w,c,_=>⟨λ_=>w,rfl,(λi o r h=>(by cases h)),c⟩
 | b::R,j,n,w,c,k=>by
   simp only[gA] at k;obtain⟨d,l,m,p,q,f⟩:=Ll g (j b<|by simp) c (by omega);obtain⟨a,s,t,u⟩:=qQ g R (λx v=>j x (by simp[v])) (n+2) l f (by omega);refine⟨λi=>match i with|0=>w|1=>d|2=>d|i+3=>a i,rfl,?_,?_⟩
   .intro i o r h;rw[B9] at h
    match i,h with
    | 0,h=>obtain⟨rfl,rfl,_⟩:=b8 (aq h);exact⟨rm 1,m⟩
    | 1,h=>obtain⟨rfl,rfl,_⟩:=b8 (aq h);exact⟨B8 b.2,p⟩
    | 2,h =>
      obtain⟨rfl,rfl,_⟩:=b8 (aq h);refine⟨rm 0,?_⟩;show aG ((1,my,()),d,())=some ((jT 0,()),a 0,())
      rw[s];exact q
    | i+3,h=>exact t i o r h
   .have:3*(b::R).length=3*R.length+3:=by simp only[gA];omega
    rw[this];show WB none B _ (a<|3*R.length)
    have e:n+2*(b::R).length=n+2+2*R.length:=by simp only[gA];omega
    rw[e];exact u
theorem G8(L:List Dn)(a:Int)(b:Bool)(c:oa):db ((),tX L a b false c,())=some ((rR 0 [] [] 0 [],false,()),tX L a b false c,()):=rfl
theorem AJ{R:List Bl}{i:Nat}{e:Dn}(h:(LR R)[i]?=some e):(LR R).take (i+1)=(LR R).take i++[e]:=by
 have a:=cE h;rw[Hc a];rw[nP a] at h;rw[aq h]
abbrev RR:=Bool×ah×Int×Bool×Bool×oa×ah
def IZ(r:Int×Bool×Int×Int×ah)(a:Int)(b c:Bool)(d:oa)(L:List Dn)(w:Wd):(Int×Bool×Int×Int×ah)×RR×List Dn×Pq:=(r,(true,(),a,b,c,d,()),L,wT w)
theorem Cc{e:List TK}(p:nw e)(f:G7)(q:f.2.1=lays e){t:Tx}(s:t.length<=100){R:List Bl}{r:Nat×Bool}(g:Tr e t 0 R r)(A:R.length<=12){i:Nat}(u:i<3*R.length)(a:Int)(n:Bool)(h:oa)(w:Wd)
  (v:∀o b,(LR R)[i]?=some (o,b,())->∃w',qJ b/\aG ((1,o,()),w,())=some ((b,()),w',())) :
  ∃x j k o b w',(LR R)[i]?=some (o,b,())/\aG ((1,o,()),w,())=some ((b,()),w',()) /\
   cO f t (IZ (wB i) a n false h ((LR R).take i) w)=some (.inl<|IZ (wB<|i+1) x j false k ((LR R).take<|i+1) w'):=by
 obtain⟨_,y⟩:=AH p f q s h g [] 0 i ((LR R).take i) (by rw[rU]) (by simp) (by simp;omega) (by simp;omega);obtain⟨B,C,o,b,d,z⟩:=y (by simpa using u);rw[rU] at d;obtain⟨w',l,c⟩:=v o b d;refine⟨i,true,o,o,b,w',d,c,?_⟩;have m:((LR R).take i).length<=1000:=by rw[fj,l5];omega
 unfold cO;dsimp only[IZ,wB];rw[bR<|by omega,ae];refine ob (nM ((LR R).take i) a n false h) ?_;refine ob z ?_;dsimp only[Ca];rw[show n9 1 0=false from rfl,af];refine ob (sB ((LR R).take i) i true o) ?_;dsimp only;rw[cg,af];refine ob c ?_;refine ob (yr ((LR R).take i) i true o b l m) ?_;dsimp only;rw[bB<|by omega,AJ d];rfl
theorem FY{c:List TK}(h:nw c)(d:G7)(i:d.2.1=lays c){t:Tx}(j:t.length<=100){R:List Bl}{r:Nat×Bool}(e:Tr c t 0 R r)(n:R.length<=12)(a:Int)(g:Bool)(b:oa)(w:Wd) :
  ∃k,cO d t (IZ (wB<|3*R.length) a g false b (LR R) w)=some (.inr (1,IZ ((r.1:Int),r.2,(0:Int),((3*R.length:Nat):Int),()) k false false b (LR R) w)):=by
 have f:(LR R).take (3*R.length)=LR R:=sG (by rw[l5];omega);obtain⟨l,_⟩:=AH h d i j b e [] 0 (3*R.length) (LR R) (by rw[rU,f]) (by simp) (by simp) (by simp;omega);obtain⟨o,p,m⟩:=l (by simp);refine⟨((3*R.length:Nat):Int),?_⟩;unfold cO;dsimp only[IZ,wB];rw[bR<|by omega,ae];refine ob (nM (LR R) a g false b) ?_;refine ob m ?_;dsimp only[Ca];rw[show n9 1 0=false from rfl,af];refine ob (G8 (LR R) _ false b) ?_;dsimp only;rw[cM,ae];rfl
theorem FZ{p:List TK}(C:nw p)(k:G7)(D:k.2.1=lays p){t:Tx}(E:t.length<=100){R:List Bl}{r:Nat×Bool}(l:Tr p t 0 R r)(F:R.length<=12){B:List Bl}(H:Ny B)(q:∀b∈R,b∈B)
  {n:Nat} {w:Wd} (I:WB none B n w) (J:n+2*R.length<=1000) :
  ∃a e w',WB none B (n+2*R.length) w'/\Loop (cO k t) (IZ (wB 0) 0 false false (rR 0 [] [] 0 []) [] w)=some (1,IZ ((r.1:Int),r.2,(0:Int),((3*R.length:Nat):Int),()) a false false e (LR R) w'):=by
 obtain⟨f,K,G,L⟩:=qQ H R q n w I J;have key:∀d i,i+d=3*R.length->∀a m e,∃g c,Loop (cO k t) (IZ (wB i) a m false e ((LR R).take i)<|f i)=some (1,IZ ((r.1:Int),r.2,(0:Int),((3*R.length:Nat):Int),()) g false false c (LR R) (f<|3*R.length)):=by
  intro d;induction d with
  | zero =>
    intro i M a m e;obtain rfl:i=3*R.length:=by omega
    obtain⟨g,h⟩:=FY C k D E l F a m e (f<|3*R.length);refine⟨g,e,?_⟩;rw[show(LR R).take (3*R.length)=LR R from sG (by rw[l5];omega),bm,h];rfl
  | succ d N =>
    intro i M a m e;obtain⟨O,s,u,o,v,P,y,z,j⟩:=Cc C k D E l F (show i<3*R.length by omega) a m e (f i) (λo v y=>⟨f<|i+1,G i o v y⟩);have A:P=f (i+1):=by
     have:=(G i o v y).2;rw[z] at this;exact congrArg (λx:(Rs×ah)×Wd×ah=>x.2.1) (aq this)
    subst A;obtain⟨g,c,h⟩:=N (i+1) (by omega) O s u;exact⟨g,c,by rw[bm,j];exact h⟩
 obtain⟨g,c,h⟩:=key (3*R.length) 0 (by omega) 0 false (rR 0 [] [] 0 []);refine⟨g,c,f (3*R.length),L,?_⟩;rw[K] at h;exact h
def kn(a:List Tx)(t:Tx)(k:Nat):Bool:=decide (t∈a.take k)
theorem yB(a:List Tx)(d:G7){i:Nat}(b:d.1.2.2.2.1=(i:Int))(l:a.length<=12){t:Tx}(f:a[i]?=some t) :
  Loop (gg (a,()) d) ((false,(0:Int),()),())=some ((kn a t i,(i:Int),()),()):=by
 have g:=cE f;refine uQ (λk:Nat=>((kn a t k,(k:Int),()),())) i 0 (λk _ j=>?_) ?_
 .have j:k<i:=by omega
  have hx:a[k]?=some (a[k]'(by omega)):=nP (by omega);have hs:kn a t (k+1)=(kn a t k||decide (a[k]'(by omega)=t)):=by
   unfold kn;rw[Hc<|by omega];have e:(t∈a.take k++[a[k]'(by omega)])↔(t∈a.take k\/a[k]'(by omega)=t):=by
    rw[lW,gD];exact⟨λh=>h.elim .inl λh=>.inr h.symm,λh=>h.elim .inl λh=>.inr h.symm⟩
   rw[decide_eq_decide.2 e];exact Bool.decide_or _ _
  unfold gg;dsimp only;rw[b,bR (by omega),ae];refine(congrArg fh (?_:_=some (.inl ((kn a t<|k+1,((k+1:Nat):Int),()),())))).trans (bS _);cases c:kn a t k with
  | true=>rw[ae,bB (by omega),hs,c];rfl
  | false =>
    rw[af];refine ob (bb hx) ?_;refine ob (bb f) ?_;rw[bB<|by omega,hs,c];rfl
 .rw[kL];unfold gg;dsimp only;rw[b,aN (by omega),af];rfl
def Cd(b:Bool)(a i:Nat)(l:List Ix)(w:Wd):G7:=((b,(),(a:Int),(i:Int),()),l,wT w)
structure PI (xs:List Tx) (i:Nat) (Ts:List TK) (B:List Bl) (w:Wd):Prop where
 pl:nw Ts
 PU:Ts.map (·.1)=xs.take i
 OA:Ny B
 wb:WB none B (40*i+1) w
 has:∀p∈Ts,(eG p,p.1)∈B
 only:∀b∈B,∃p∈Ts,b=(eG p,p.1)
 TG:B.length<=i
theorem AK(a:List TK)(t:Tx)(k:Nat):lays (a++[(t,k)])=lays a++[Ly t k]:=by unfold lays;rw[oY];rfl
theorem IC{B:List Bl}(k:Ny B)(G:B.length<12){s:Tx}(x:vU s)(z:∀b∈B,b.1≠s){t:Tx}(y:t.length<=100){n:Nat}{w:Wd}(A:WB none B n w)(C:n+3<=1000) :
  ∃e g h,aG ((1,rR 3 (jZ s) [] 0 [],()),w,())=some ((jT 1,()),e,())/\aG ((1,rR 7 [] [] 1 t,()),e,())=some ((jT 0,()),g,()) /\
   aG ((1,my,()),g,())=some ((jT 0,()),h,())/\WB none (B++[(s,t)]) (n+3) h/\Ny (B++[(s,t)]):=by
 have H:=k.data;obtain⟨e,D,l⟩:=yA (h':=some ((B.length:Int)+3)) (B':=B++[(s,[])]) A (by omega) (rR 3 (jZ s) [] 0 []) (jT 1) rfl rfl rfl rfl rfl rfl (λm f c=>MR c (by omega) x z);have o:(B++[(s,([]:Tx))])[B.length]?=some (s,[]):=by rw[Ep<|cU _,CI];rfl
 have d:(B++[(s,([]:Tx))]).set B.length (s,t)=B++[(s,t)]:=by rw[List.set_append_right _ _<|cU _,CI];rfl
 obtain⟨g,E,p⟩:=yA (h':=some ((B.length:Int)+3)) (B':=B++[(s,t)]) l (by omega) (rR 7 [] [] 1 t) (jT 0) rfl rfl rfl rfl rfl rfl (λm f c=>by
  obtain⟨q,r,j⟩:=Of (i:=B.length) c (by simp;omega) o y;rw[d] at j;exact⟨m,q,r,j⟩)
 have u:(B++[(s,t)])[B.length]?=some (s,t):=by rw[Ep<|cU _,CI];rfl
 obtain⟨h,F,v⟩:=yA (h':=none) (B':=B++[(s,t)]) p (by omega) my (jT 0) rfl rfl rfl rfl rfl rfl (λm f c=>by
  obtain⟨q,r,j⟩:=Lb (i:=B.length) c (by simp;omega) u (by show t.length<=1000;omega);exact⟨m,q,r,j⟩)
 refine⟨e,g,h,D,E,F,v,⟨by simp;omega,?_,?_⟩⟩
 .intro b a;rcases lW.1 a with a|a
  .exact k.nm b a
  .obtain rfl:=gD.1 a;exact x
 .intro b a;rcases lW.1 a with a|a
  .exact k.data b a
  .obtain rfl:=gD.1 a;exact y
theorem F0{n:List Tx}(Q:n.length<=12){i:Nat}{t:Tx}(d:n[i]?=some t)(G:t.length<=100){j:List TK}{B:List Bl}{w:Wd}(h:PI n i j B w) :
  ∃v S w',PI n (i+1) v S w'/\bY (n,()) (Cd false B.length i (lays j) w)=some (.inl<|Cd false S.length (i+1) (lays v) w'):=by
 have o:=cE d;have H:j.length=i:=by
  have:=congrArg List.length h.PU;rw[p5,fj] at this;omega
 have T:=h.TG;obtain⟨K,X,I⟩:=Li h.pl t;obtain⟨R,r,s,hR,J⟩:=Pp h.pl t X I K 0 (by omega);obtain⟨y,g⟩:=h.pl.more (by omega) G s;have L:∀b∈R,b∈B:=λb l=>by
  obtain⟨p,c,e,_⟩:=J b l;rw[e];exact h.has p c
 obtain⟨a,op,Y,z,U⟩:=FZ h.pl (Cd false B.length i (lays j) w) rfl G s (by omega) h.OA L h.wb (by omega);have A:kn n t i=r.2:=by
  have:(t∈n.take i)↔∃p∈j,p.1=t:=by rw[<-h.PU,lY]
  unfold kn;cases u:r.2 with
  | true=>exact oe (this.2<|g.1 u)
  | false=>exact uc λe=>by have:=g.2 (this.1 e);rw[u] at this;cases this
 have C:(j++[(t,r.1)]).map (·.1)=n.take (i+1):=by
  rw[oY,h.PU,Hc o];rw[nP o] at d;rw[aq d];rfl
 have D:(lays j).length=i:=by unfold lays;rw[p5];exact H
 cases u:r.2 with
 | true =>
   refine⟨j++[(t,r.1)],B,Y,⟨y,C,h.OA,?_,?_,?_,by omega⟩,?_⟩
   .obtain⟨m,f,b,M,N,E,Z⟩:=z;exact⟨m,f,b,M,N,E,by omega⟩
   .intro p c;rcases lW.1 c with c|c
    .exact h.has p c
    .obtain rfl:=gD.1 c;obtain⟨q,V,e⟩:=g.1 u;have:(t,r.1)=q:=by
      subst e;have:=Eh h.pl V s (jO _);rw[this]
     rw[this];exact h.has q V
   .intro b l;obtain⟨p,c,e⟩:=h.only b l;exact⟨p,by simp[c],e⟩
   .unfold bY;dsimp only[Cd];rw[dt o,ae];refine ob (bb d) ?_;rw[show cW (100:Int) (len t)=false from aN (by rw[cX];omega),af];refine ob (yB n (Cd false B.length i (lays j) w) rfl Q d) ?_;refine ob (bb d) ?_;refine ob U ?_;dsimp only[IZ];rw[show n9 1 0=false from rfl,af,A,u,show av (nt<|nt<|aQ (0:Int) 0) (nt<|LO true true) true=false from rfl,af];refine ob (bb d) ?_;refine ob (uP t<|by omega) ?_;refine ob (bb d) ?_;rw[cg,af];refine ob rfl ?_;rw[show n9 0 0=true from rfl,ae,b9 (by rw[D];simp only[p4];omega),ae,bB (by omega),AK];rfl
 | false =>
   have F:∀p∈j,p.1≠t:=λp c e=>by
    have:=g.2 ⟨p,c,e⟩;rw[u] at this;cases this
   obtain⟨_,t2,t3,_⟩:=Lj h.pl F s;have hs:=Lg t (k:=r.1) (by omega);obtain⟨w2,w3,W,d1,d2,d3,O,P⟩:=IC h.OA (by omega) hs (λb l e=>by
    obtain⟨p,c,E⟩:=h.only b l;exact t3 ⟨p,c,by rw[<-e,E]⟩) G z (by omega)
   refine⟨j++[(t,r.1)],B++[(jN t r.1,t)],W,⟨y,C,P,?_,?_,?_,by simp;omega⟩,?_⟩
   .obtain⟨m,f,b,M,N,E,Z⟩:=O;exact⟨m,f,b,M,N,E,by omega⟩
   .intro p c;rcases lW.1 c with c|c
    .have:=h.has p c;simp[this]
    .obtain rfl:=gD.1 c;show(jN t r.1,t)∈_
     simp
   .intro b l;rcases lW.1 l with l|l
    .obtain⟨p,c,e⟩:=h.only b l;exact⟨p,by simp[c],e⟩
    .obtain rfl:=gD.1 l;exact⟨(t,r.1),by simp,rfl⟩
   .unfold bY;dsimp only[Cd];rw[dt o,ae];refine ob (bb d) ?_;rw[show cW (100:Int) (len t)=false from aN (by rw[cX];omega),af];refine ob (yB n (Cd false B.length i (lays j) w) rfl Q d) ?_;refine ob (bb d) ?_;refine ob U ?_;dsimp only[IZ];rw[show n9 1 0=false from rfl,af,A,u,show av (nt<|nt<|aQ (0:Int) 0) (nt<|LO false false) true=false from rfl,af];refine ob (bb d) ?_;refine ob (uP t<|by omega) ?_;refine ob (bb d) ?_;rw[cM,ae];refine ob (x:=(0,(false,((B.length+1:Nat):Int),()),wT W)) ?_ ?_
    .refine ob (oP t (k:=r.1)<|by omega) ?_;refine ob d1 ?_;refine ob (bb d) ?_;refine ob d2 ?_;refine ob d3 ?_;dsimp only;rw[show nt (aQ (0:Int) 0)=false from rfl,af,bB (by omega)];rfl
    .dsimp only;rw[show n9 0 0=true from rfl,ae,b9 (by rw[D];simp only[p4];omega),ae,bB (by omega),AK,show(B++[(jN t r.1,t)]).length=B.length+1 by simp];rfl
theorem ID{a:List Tx}(j:a.length<=12):∀(d i:Nat),i+d=a.length->∀{b:List TK} {B:List Bl} {w:Wd},PI a i b B w ->
  (∃s:G7,s.1.1=true/\Loop (bY (a,())) (Cd false B.length i (lays b) w)=some (1,s)) \/
   ∃e g w',PI a a.length e g w'/\Loop (bY (a,())) (Cd false B.length i (lays b) w)=some (0,Cd false g.length a.length (lays e) w'):=by
 intro d;induction d with
 | zero =>
   intro i k b B w h;obtain rfl:i=a.length:=by omega
   refine .inr ⟨b,B,w,h,?_⟩;have:bY (a,()) (Cd false B.length a.length (lays b) w)=some (.inr (0,Cd false B.length a.length (lays b) w)):=by
    unfold bY;dsimp only[Cd];rw[cP,af]
   rw[bm,this];rfl
 | succ d l =>
   intro i k b B w h;have f:a[i]?=some (a[i]'(by omega)):=nP (by omega);by_cases m:(a[i]'(by omega)).length<=100
   .obtain⟨e,g,w',n,c⟩:=F0 j f m h;rcases l (i+1) (by omega) n with ⟨s,o,p⟩|⟨q,r,t,u,v⟩
    .exact .inl ⟨s,o,by rw[bm,c];exact p⟩
    .exact .inr ⟨q,r,t,u,by rw[bm,c];exact v⟩
   .refine .inl ⟨Cd true B.length i (lays b) w,rfl,?_⟩;have:bY (a,()) (Cd false B.length i (lays b) w)=some (.inr (1,Cd true B.length i (lays b) w)):=by
     unfold bY;dsimp only[Cd];rw[dt<|by omega,ae];refine ob (bb f) ?_;rw[show cW (100:Int) (len<|a[i]'(by omega))=true from bR (by rw[cX];omega),ae];refine ob (show ic ()=some (true,()) from rfl) ?_;rfl
    rw[bm,this];rfl
abbrev TH:=(Tx×Int×Int×ah)×RR×List Dn×Pq
def Ei(s:Tx)(f:Int)(j:Nat)(a:Int)(b:Bool)(c:oa)(L:List Dn)(w:Wd):TH:=((s,f,(j:Int),()),(true,(),a,b,false,c,()),L,wT w)
abbrev Q4:=(Bool×Int×ah)×Pq
theorem IE(r:Nat×G7)(s:Q4){c:List TK}(v:nw c)(x:r.2.2.1=lays c){i:Nat}(f:s.1.2.1=(i:Int)){p:TK}(g:c[i]?=some p){j:Nat}(t:j<3)(a:Int)(u:Bool)(h:oa)(w:Wd)
  (y:∀o b,(LR [(eG p,p.1)])[j]?=some (o,b,())->∃w',qJ b/\aG ((1,o,()),w,())=some ((b,()),w',())) :
  ∃z l o b w',(LR [(eG p,p.1)])[j]?=some (o,b,())/\aG ((1,o,()),w,())=some ((b,()),w',()) /\
   bZ r s (Ei [] 14 j a u h ((LR [(eG p,p.1)]).take j) w)=some (.inl<|Ei [] 14 (j+1) z true l ((LR [(eG p,p.1)]).take<|j+1) w'):=by
 have A:=v.small p (od g);have B:=cE g;have C:(lays c).length=c.length:=by unfold lays;rw[p5]
 have m:(lays c)[i]?=some (Ly p.1 p.2):=by unfold lays;rw[sH,g];rfl
 have n:((LR [(eG p,p.1)]).take j).length=0+j:=by rw[fj,l5];simp;omega
 obtain⟨o,b,D,E⟩:=yy ((LR [(eG p,p.1)]).take j) 0 j p.1 p.2 h (by omega) (by omega) t n (λk F=>by
  rw[kK,bH (by omega)];have:=yz [] (eG p,p.1) [] (j:=k) (by omega);exact this)
 have d:(LR [(eG p,p.1)])[j]?=some (o,b,()):=by
  have:=yz [] (eG p,p.1) [] t;simp only[ni,Nat.mul_zero,kL,rU] at this;rw[this];exact D
 obtain⟨w',q,e⟩:=y o b d;refine⟨((0+j:Nat):Int),o,o,b,w',d,e,?_⟩;unfold bZ;refine(congrArg fh (?_:_=some (.inl<|Ei [] 14 (j+1) ((0+j:Nat):Int) true o ((LR [(eG p,p.1)]).take<|j+1) w'))).trans (bS _);dsimp only[Ei];rw[bR<|by omega,ae,show aQ (14:Int) 14=true from rfl,ae];refine ob (nM ((LR [(eG p,p.1)]).take j) a u false h) ?_;rw[x,f,show within (i:Int) (len<|lays c)=true from aT (by omega) (by rw[cX];omega),ae];refine ob (bb m) ?_;refine ob E ?_;refine ob (sB ((LR [(eG p,p.1)]).take j) _ true o) ?_;dsimp only[tX];rw[ae];refine ob (ob e<|ob (yr ((LR [(eG p,p.1)]).take j) _ true o b q<|by omega) rfl) ?_;dsimp only;rw[bB<|by omega,AJ d];rfl
theorem Lm(g:Nat×G7)(h:Q4){b:List TK}(l:nw b)(m:g.2.2.1=lays b){i:Nat}(d:h.1.2.1=(i:Int)){p:TK}(e:b[i]?=some p)(a:Int)(j:Bool)(c:oa)(w:Wd) :
  bZ g h (Ei [] 14 3 a j c (LR [(eG p,p.1)]) w)=some (.inl<|Ei p.1 0 4 3 false c (LR [(eG p,p.1)]) w):=by
 have n:=l.small p (od e);have o:=cE e;have q:(lays b).length=b.length:=by unfold lays;rw[p5]
 have f:(lays b)[i]?=some (Ly p.1 p.2):=by unfold lays;rw[sH,e];rfl
 have r:=yx (LR [(eG p,p.1)]) 0 p.1 p.2 c (by omega) (by omega) (by rw[l5];simp) (λk s=>yz [] (eG p,p.1) [] s);unfold bZ;refine(congrArg fh (?_:_=some (.inl<|Ei p.1 0 4 3 false c (LR [(eG p,p.1)]) w))).trans (bS _);dsimp only[Ei];rw[bR<|by omega,ae,show aQ (14:Int) 14=true from rfl,ae];refine ob (nM (LR [(eG p,p.1)]) a j false c) ?_;rw[m,d,show within (i:Int) (len<|lays b)=true from aT (by omega) (by rw[cX];omega),ae];refine ob (bb f) ?_;refine ob r ?_;refine ob (G8 (LR [(eG p,p.1)]) _ false c) ?_;dsimp only[tX];rw[af];refine ob rfl ?_;rw[show aK .i64 ((3:Nat):Int) 1=4 from rfl];rfl
theorem Ln(c:Nat×G7)(d:Q4){k:List TK}(u:nw k)(v:c.2.2.1=lays k){i:Nat}(f:d.1.2.1=(i:Int)){p:TK}(y:k[i]?=some p){B:List Bl}(D:Ny B)(l:(eG p,p.1)∈B){n:Nat}{w:Wd}(E:WB none B n w)(S:n+2<=1000) :
  ∃a g w',WB none B (n+2) w'/\Loop (bZ c d) (Ei [] 14 0 0 false (rR 0 [] [] 0 []) [] w)=some (Ei p.1 0 4 a false g (LR [(eG p,p.1)]) w'):=by
 obtain⟨b,F,z,G⟩:=qQ D [(eG p,p.1)] (by simp[l]) n w E (by simp;omega);have step:∀j a m g,j<3->∃q e,bZ c d (Ei [] 14 j a m g ((LR [(eG p,p.1)]).take j)<|b j)=some (.inl<|Ei [] 14 (j+1) q true e ((LR [(eG p,p.1)]).take<|j+1)<|b<|j+1):=by
  intro j a m g H;obtain⟨q,e,o,r,w',s,t,A⟩:=IE c d u v f y H a m g (b j) (λo r s=>⟨b<|j+1,z j o r s⟩);have:w'=b (j+1):=by
   have:=(z j o r s).2;rw[t] at this;exact congrArg (λx:(Rs×ah)×Wd×ah=>x.2.1) (aq this)
  rw[this] at A;exact⟨q,e,A⟩
 obtain⟨I,J,C⟩:=step 0 0 false (rR 0 [] [] 0 []) (by decide);obtain⟨K,L,M⟩:=step 1 I true J (by decide);obtain⟨N,h,O⟩:=step 2 K true L (by decide);have P:=Lm c d u v f y N true h (b 3);have Q:bZ c d (Ei p.1 0 4 3 false h (LR [(eG p,p.1)])<|b 3)=some (.inr<|Ei p.1 0 4 3 false h (LR [(eG p,p.1)])<|b 3):=by
  unfold bZ;dsimp only[Ei];rw[show av (cW ((4:Nat):Int) 5) (aQ (0:Int) 14) false=false from rfl,af];rfl
 refine⟨3,h,b 3,G,?_⟩;rw[F] at C;have R:(LR [(eG p,p.1)]).take 3=LR [(eG p,p.1)]:=rfl;rw[bm,show bZ c d (Ei [] 14 0 0 false (rR 0 [] [] 0 []) [] w)=_ from C];show Loop _ _=_
 rw[bm,M];show Loop _ _=_
 rw[bm,O,R];show Loop _ _=_
 rw[bm,P];show Loop _ _=_
 rw[bm,Q];rfl
theorem IF{c:List Tx}{b:List TK}(q:nw b)(f:b.map (·.1)=c){B:List Bl}(s:Ny B)(t:∀p∈b,(eG p,p.1)∈B)(g:Nat×G7)(h:g.2.2.1=lays b) :
  ∀(d i:Nat),i+d=b.length->∀{n:Nat} {w:Wd},WB none B n w->n+2*d<=1000 ->
   ∃w' j,WB none B j w'/\Loop (dA (c,()) g) ((false,(i:Int),()),wT w)=some (0,(false,(b.length:Int),()),wT w'):=by
 have u:c.length=b.length:=by rw[<-f,p5]
 have k:(lays b).length=b.length:=by unfold lays;rw[p5]
 have v:=q.len;intro d;induction d with
 | zero =>
   intro i x n w l y;obtain rfl:i=b.length:=by omega
   refine⟨w,n,l,?_⟩;have:dA (c,()) g ((false,(b.length:Int),()),wT w)=some (.inr (0,(false,(b.length:Int),()),wT w)):=by
    unfold dA;dsimp only;rw[h,<-k,cP,af,af]
   rw[bm,this];rfl
 | succ d z =>
   intro i x n w l y;have r:b[i]?=some (b[i]'(by omega)):=nP (by omega);have m:c[i]?=some (b[i]'(by omega)).1:=by rw[<-f,sH,r];rfl
   obtain⟨a,F,A,o,C⟩:=Ln g ((false,(i:Int),()),wT w) q h (i:=i) rfl r s (t _<|Js _) l (by omega);have e:dA (c,()) g ((false,(i:Int),()),wT w)=some (.inl ((false,((i+1:Nat):Int),()),wT A)):=by
    unfold dA;dsimp only;rw[h,dt (show i<(lays b).length by omega),ae,dt (show i<c.length by omega),ae];refine ob C ?_;refine ob (bb m) ?_;dsimp only[Ei];rw[Kw,show av (nt<|nt true) (nt<|aQ (0:Int) 0) true=false from rfl,af,bB (by omega)]
   obtain⟨w',j,D,E⟩:=z (i+1) (by omega) o (by omega);exact⟨w',j,D,by rw[bm,e];exact E⟩
def fI:Fs:=((16777216,3,[l4 1 [(gW,2,())],l4 2 []],()),[],())
theorem IG:bu ((1,rR 1 gW [] 0 [],()),((16777216,2,[l4 1 []],()),[],()),())=some ((jT 0,()),fI,()):=by
 obtain rfl:‹Lp›=Lp.y3:=Lp.one _ _;kernel_rfl
theorem Pr:FB none [] [] fI:=by
 refine⟨rfl,rfl,rfl,rfl,rfl,rfl,rfl,(λi b h=>(by cases h)),(λs _=>rfl),(λi b h=>(by cases h)),?_,?_,(λe h=>(by cases h))⟩
 .intro x a;have:x∈[l4 1 [(gW,2,())],l4 2 []]:=a;rcases eR.1 this with rfl|h
  .decide
  .obtain rfl:=gD.1 h;decide
 .intro x a;have:x∈[l4 1 [(gW,2,())],l4 2 []]:=a;rcases eR.1 this with rfl|h
  .exact(by decide:0<=1000)
  .obtain rfl:=gD.1 h;exact(by decide:0<=1000)
theorem Ce(a:List Tx):jh (a,())=some (true,()):=by
 have c:ic ()=some (true,()):=rfl;unfold jh;rw[show fits (plus (len ([]:List Hn))<|len ([]:List Hn))=true from rfl,ae];rw[b9<|show([]:List Nd).length+_<=4294967296 by simp,ae];dsimp only;by_cases hx:12<a.length
 .rw[show cW (12:Int) (len a)=true from bR (by rw[cX];omega),ae];exact ob (ob c rfl) rfl
 rw[show cW (12:Int) (len a)=false from aN (by rw[cX];omega),af];have i:jn (((1:Int),()),(([]:List (Int×Int×ah)),(0:Int),()),())=some ((1,0,()),PT,()):=by
  obtain rfl:‹Lp›=Lp.y3:=Lp.one _ _;kernel_rfl
 let e:Fs:=((16777216,2,[l4 1 []],()),[],())
 refine ob i ?_;refine ob (G4 e fI e [] (rR 1 gW [] 0 []) (jT 0) IG rfl rfl rfl rfl rfl rfl (by decide)) ?_;have j:PI a 0 [] [] (wd fI e [MN<|rR 1 gW [] 0 []]):=⟨nw.nil,rfl,⟨by decide,by simp,by simp⟩,⟨[],fI,e,_,rfl,Pr,by decide⟩,by simp,by simp,by decide⟩;rcases ID (by omega) a.length 0 (by omega) j with ⟨s,o,p⟩|⟨g,B,w,h,q⟩
 .refine ob p ?_;dsimp only;rw[show n9 1 0=false from rfl,af,o]
 refine ob q ?_;dsimp only;rw[show n9 0 0=true from rfl,ae];have d:g.map (·.1)=a:=by rw[h.PU,sG (cU _)]
 have r:g.length=a.length:=by rw[<-d,p5]
 have t:=h.pl.len;obtain⟨w',C,k,u⟩:=IF h.pl d h.OA h.has (0,Cd false B.length a.length (lays g) w) rfl g.length 0 (by omega) h.wb (by omega);refine ob u ?_;dsimp only;rw[show n9 0 0=true from rfl,ae];obtain⟨m,f,b,D,rfl,v,_⟩:=k;have x:=h.OA.n;obtain⟨l,y,z⟩:=Og v (by omega) (λb A=>(h.OA.nm b A).2.2);refine ob y ?_;dsimp only[Cd];rw[show aQ (len l) (aK IntKind.i64 1 (B.length:Int))=true from fL (by rw[cX,z,dH (by omega) (by omega)];omega),ae];exact ob (ob c rfl) rfl
theorem IH(c:Rn):ky ((([]:List Ix),([120]:Tx),()),c,())=some (((0:Int),false,(0:Int),()),c,()):=by
 have a:∀nm:Tx,Loop (jK ((([]:List Ix),([120]:Tx),()),c,())) (((0:Int),(0:Int),()),nm,())=some (0,((0:Int),(0:Int),()),nm,()):=by
  intro nm;have:jK ((([]:List Ix),([120]:Tx),()),c,()) (((0:Int),(0:Int),()),nm,())=some (.inr (0,((0:Int),(0:Int),()),nm,())):=by
   unfold jK;dsimp only;rw[show cW (0:Int) (@len Ix [])=false from rfl,af]
  rw[bm,this];rfl
 have b:jL ((([]:List Ix),([120]:Tx),()),c,()) (wB 0,Oh [120] 0,(c.1,(),c.2.2.1,c.2.2.2.1,c.2.2.2.2.1,c.2.2.2.2.2.1,()),c.2.1,()) =
   some (.inr (1,wB 0,Oh [120] 1,(c.1,(),c.2.2.1,c.2.2.2.1,c.2.2.2.2.1,c.2.2.2.2.2.1,()),c.2.1,())):=by
  unfold jL wB;dsimp only;rw[show cW ((0:Nat):Int) 33=true from rfl,ae];refine ob (lR [120] (by decide) 0) ?_;refine ob (j0 [120] (k:=0)<|by decide) ?_;refine ob (a _) ?_;dsimp only;rw[show n9 0 0=true from rfl,ae];rfl
 have d:Loop (jL ((([]:List Ix),([120]:Tx),()),c,())) (wB 0,Oh [120] 0,(c.1,(),c.2.2.1,c.2.2.2.1,c.2.2.2.2.1,c.2.2.2.2.2.1,()),c.2.1,())=some (1,wB 0,Oh [120] 1,(c.1,(),c.2.2.1,c.2.2.2.1,c.2.2.2.2.1,c.2.2.2.2.2.1,()),c.2.1,()):=by
  rw[bm,b];rfl
 unfold ky;refine ob d ?_;rfl
theorem Lo(p:Tx)(o:oa):eL ((p,()),tX [] 0 false false o,())=some (([],(14:Int),()),tX [] 0 true true<|rR 4 p [] 0 [],()):=by
 unfold eL;exact ob (wA [] (rR 4 p [] 0 []) o) rfl
def MW:Tx:=[115,104,97,50,53,54,58,50,100,55,49,49,54,52,50,98,55,50,54,98,48,52,52,48,49,54,50,55,99,97,57,102,98,97,99,51,50,102,53,99,56,53,51,48,102,98,49,57,48,51,99,99,52,100,98,48,50,50,53,56,55,49,55,57,50,49,97,52,56,56,49]
def OB:Tx:=[50,100,55,49,49,54,52,50,98,55,50,54,98,48,52,52,48,49,54,50,55,99,97,57,46,48]
set_option maxRecDepth 100000 in
theorem yC:gB [120]=MW:=by kernel_rfl
theorem F1:jN [120] 0=OB:=by
 unfold jN yw;rw[yC];rfl
theorem Ps(x:Ix)(a:x.2.2.2.1=MW)(b:x.2.2.2.2.2.1=0)(o:oa):dM ((x,()),(true,[],(0:Int),false,false,o,()),())=some (([],(14:Int),()),(true,[],(0:Int),true,true,rR 4 ([98,108,111,98,47]++OB) [] 0 [],()),()):=by
 have c:iT (x.2.2.2.1,x.2.2.2.2.2.1,())=some ([98,108,111,98,47]++OB,()):=by
  rw[a,b,<-yC,<-F1];exact oP [120] (k:=0) (by decide)
 unfold dM;refine ob c ?_;refine ob (Lo _ o) ?_;rfl
def yD(x:Tx×ah):Option (Tx×ah):=bif ie x.1 [120] then some (MW,()) else none
def vp(x:Tx×Int×ah):Option (Tx×ah):=bif ie x.1 MW&&aQ x.2.1 0 then some (OB,()) else none
def vq(x:Tx×Int×ah):Option (Tx×ah):=bif ie x.1 MW&&aQ x.2.1 0 then some ([98,108,111,98,47]++OB,()) else none
def tS(x:(List Ix×Tx×ah)×Rn×ah):Option ((Int×Bool×Int×ah)×Rn×ah):=match x.1.1 with
 | []=>bif ie x.1.2.1 [120] then some (((0:Int),false,(0:Int),()),x.2) else none
 | _=>none
def yE(x:(Ix×ah)×Rn×ah):Option ((Tx×Int×ah)×Rn×ah):=match x.2.1.2.1 with
 | []=>bif ie x.1.1.2.2.2.1 MW&&aQ x.1.1.2.2.2.2.2.1 0&&x.2.1.1&&aQ x.2.1.2.2.1 0&&!x.2.1.2.2.2.1&&!x.2.1.2.2.2.2.1 then
  some (([],(14:Int),()),(true,[],(0:Int),true,true,rR 4 ([98,108,111,98,47]++OB) [] 0 [],()),()) else none
 | _=>none
theorem yF{a b:Tx}(h:ie a b=true):a=b:=yW h
theorem Cf{a b:Int}(h:aQ a b=true):a=b:=yW h
theorem zJ:∀x y,yD x=some y->mY x=some y:=by
 rintro⟨x,u⟩ y h;unfold yD at h;cases q:ie x [120] with
 | false=>simp[q] at h
 | true =>
   simp only[q,cd,j7] at h;rw[<-h,yF q,<-yC];exact uP [120] (by decide)
theorem yG:∀x y,vp x=some y->fK x=some y:=by
 rintro⟨x,k,u⟩ y h;unfold vp at h;cases q:ie x MW&&aQ k 0 with
 | false=>simp[q] at h
 | true =>
   simp only[q,cd,j7] at h;rw[cA] at q;rw[<-h,yF q.1,Cf q.2,<-F1,<-yC];exact j0 [120] (k:=0) (by decide)
theorem yH:∀x y,vq x=some y->iT x=some y:=by
 rintro⟨x,k,u⟩ y h;unfold vq at h;cases q:ie x MW&&aQ k 0 with
 | false=>simp[q] at h
 | true =>
   simp only[q,cd,j7] at h;rw[cA] at q;rw[<-h,yF q.1,Cf q.2,<-F1,<-yC];exact oP [120] (k:=0) (by decide)
theorem vV:∀x y,tS x=some y->ky x=some y:=by
 rintro⟨⟨l,d,u⟩,c,b⟩ y h;unfold tS at h;cases l with
 | cons a r=>cases h
 | nil =>
   cases q:ie d [120] with
   | false=>simp[q] at h
   | true =>
     simp only[q,cd,j7] at h;rw[<-h,yF q];exact IH c
theorem zK:∀x y,yE x=some y->dM x=some y:=by
 rintro⟨⟨x,u⟩,⟨g,l,a,b,c,o,i⟩,j⟩ y h;unfold yE at h;cases l with
 | cons a r=>cases h
 | nil =>
   cases q:ie x.2.2.2.1 MW&&aQ x.2.2.2.2.2.1 0&&g&&aQ a 0&&!b&&!c with
   | false=>simp[q] at h
   | true =>
     simp only[q,cd,j7] at h;simp only[cA,fO] at q;obtain⟨⟨⟨⟨⟨d,e⟩,rfl⟩,f⟩,rfl⟩,rfl⟩:=q;obtain rfl:=Cf f;rw[<-h];exact Ps x (yF d) (Cf e) o
end Go.Ge
namespace Go.Ge
end Go.Ge
