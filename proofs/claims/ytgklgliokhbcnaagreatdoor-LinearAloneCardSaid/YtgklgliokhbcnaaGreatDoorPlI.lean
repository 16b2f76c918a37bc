import Derived.Test.YtgklgliokhbcnaaGreatDoorPlH
set_option linter.unusedSectionVars false
set_option linter.unusedVariables false
set_option linter.unusedSimpArgs false
set_option linter.defProp false
noncomputable section
open Option renaming some->aa,none->af
open Sum renaming inl->aA,inr->aB
namespace Go.Ge
variable [Lp]
def N2{s}(h:qf s)(k:∀x∈s.1,xF x.2.2.2.2.2.1){c}(o:c.1=9\/c.1=10)(j:A8 c):wk (s,c,())=aa (itA s c):=by
 have t:=h.bl;have u:=h.il;have hn:lG c=Ps c.2.1 [1,2]:=by unfold lG;rw[aJ ag,aJ ag,aJ ag,aJ ag,aN o]
 unfold wk itA;dsimp only;by_cases m:c.2.1∈lG c
 rotate_left
 .rw[hn,N1] at m;simp at m;rw[aN<|by rw[hn,N1];simp;exact m,ar m.2,ar m.1];rfl
 have p:=NR o m;have v:ak (nt<|aG c.2.1 2) (nt<|aG c.2.1 1) false=false:=by
  rcases p with q|q
  .rw[au q];cases nt _<;>rfl
  .rw[au q];rfl
 rw[aJ<|λq=>q m,v,Bu h,ab];rw[oD _ _ (Dz h _) (by have:=Dy h c.2.1;omega),ab];by_cases g:(aR (wK s c.2.1) c.2.2.1).2.1=0
 rotate_left
 .rw[aN g,ar g];rfl
 rw[aJ<|λq=>q g,au g];have d:=zZ g;generalize (aR _ c.2.2.1).1=id at d;obtain⟨B,y⟩:=Ip s id ag;obtain⟨C,A⟩:=Iq s id ag;rw[y,ab,A,ab];rcases p with i|D
 .rw[au i,aN i];simp only[ai];obtain⟨f,n⟩:=yE (λz=>z.1) FQ (show ∃x∈s.1,x.1=id by
   rcases d with ⟨_,q⟩|⟨q,_⟩|⟨q,_⟩
   .exact q
   .omega
   .omega)
  have b:=k _ n;unfold itF;by_cases a:c.1=10
  .rw[au a,ai,aN a,Cs _ _ (by have:=b.1;omega),ab];by_cases q:(E0 (vJ (λz=>z.1) s.1 FQ id).2.2.2.2.2.1 c.2.2.2.2.2.2.1).2=0
   .rw[au q,aJ λz=>z q];rfl
   .rw[ar q,aN q];rfl
  .rw[ar a,ah,aJ a,Ct _ _ _ (by have:=b.1;omega) (by have:=j.key;omega) (by have:=j.data;omega),ab];by_cases q:(nq (vJ (λz=>z.1) s.1 FQ id).2.2.2.2.2.1 c.2.2.2.2.2.2.1 c.2.2.2.2.2.1).2=0
   .rw[au q,aJ (λz=>z q),aV,ah,Is s _ ag];rw[f];rfl
   .rw[ar q,aN q];rfl
 .have i:¬c.2.1=1:=ag;rw[ar i,aJ i];simp only[ah];obtain⟨f,n⟩:=yE (λz=>z.1) Pw (show ∃x∈s.2.1,x.1=id by
   rcases d with ⟨q,_⟩|⟨_,q⟩|⟨q,_⟩
   .omega
   .exact q
   .omega)
  have b:=h.it _ n;unfold itF;by_cases a:c.1=10
  .rw[au a,aN a,Cs _ _ (by have:=b.1;omega),ab];by_cases q:(E0 (vJ (λz=>z.1) s.2.1 Pw id).2.2.2.2.1 c.2.2.2.2.2.2.1).2=0
   .rw[au q,aJ λz=>z q];rfl
   .rw[ar q,aN q];rfl
  .rw[ar a,aJ a,Ct _ _ _ (by have:=b.1;omega) (by have:=j.key;omega) (by have:=j.data;omega),ab];by_cases q:(nq (vJ (λz=>z.1) s.2.1 Pw id).2.2.2.2.1 c.2.2.2.2.2.2.1 c.2.2.2.2.2.1).2=0
   .rw[au q,aJ (λz=>z q),Ir s _ ag];rw[f];rfl
   .rw[ar q,aN q];rfl
structure IdS (s:aW):Prop where
 idB:∀x∈s.1,x.1.length<=1048576
 idI:∀x∈s.2.1,x.1.length<=1048576
 idL:∀x∈s.2.2.1,x.1.length<=1048576
def aab{s}(h:qf s)(d:IdS s) k:∀x∈wK s k,x.1.length<=1048576/\pK x.2.1:=λx a=>by
 rcases Io s k with ⟨_,e⟩|⟨_,e⟩|⟨_,e⟩|e
 .rw[e] at a;obtain⟨y,b,rfl⟩:=S6 a;exact⟨d.idB y b,h.bn y b⟩
 .rw[e] at a;obtain⟨y,b,rfl⟩:=Z5 a;exact⟨d.idI y b,h.rQ y b⟩
 .rw[e] at a;obtain⟨y,b,rfl⟩:=Z6 a;exact⟨d.idL y b,h.ln y b⟩
 .rw[e] at a;cases a
def ahH(l:List Tx)(a:l.length<=1000) k (b:k<=4000000) (h:∀x∈l,x.length<=k):kS (l,[32],())=aa (Lib.join l [32],()):=by
 have:=Fa k l h;have d:l.length*(k+1)<=1000*4000001:=adf a ag;show(EL l [32]).map _=_
 unfold EL
 grind
def Kq(l:List Nm)(q:l.length<=60)(m:∀x∈l,x.1.length<=1048576/\pK x.2.1):yY (l,())=aa (afu l,()):=by
 have a:∀x∈l,(Lib.join (x.1::x.2.1) [32]).length<=9437193:=λx b=>by
  have h:=m x b;have:=Fa 1048576 (x.1::x.2.1) (λy hy=>by
   rcases fI.1 hy with rfl|hy
   .grind
   .have:=h.2.2 y hy;omega)
  have o:=h.2.1
  grind
 have key:=hM (f:=po (l,())) l (λj i=>((i,()),((),(),()),j,())) (λx=>ax (Lib.join (x.1::x.2.1) [32]++[10])) _ ag (λi x b k d=>by
  have g:((l.take i).flatMap λx=>ax (Lib.join (x.1::x.2.1) [32]++[10])).length<=(l.take i).length*9437194:=Dx _ _ _ λc p=>by
   have:=a c (DC p);rw[SV,jt];simp only[Ra];omega
  rw[dk] at g;have n:=m x (dW b);have W9:=a x (dW b);have o:=n.2.1;unfold po;rw[al k,ao b,ab,d,aH cJ,show @app Tx [x.1] x.2.1=x.1::x.2.1 from rfl,
   show kS _=_ from ahH _ cJ 1048576 ag (λy hy=>by
    rcases fI.1 hy with rfl|hy
    .grind
    .have:=n.2.2 y hy;omega),ab]
  rw[aH cJ,show app _ [10]=Lib.join _ [32]++[10] from rfl,aH (by rw[SV,jt];simp only[Ra];omega)];rfl) (by
  unfold po;rw[aq];rfl)
 exact ob key rfl
def rnA(s:aW)(k:Int)(id:Tx)(g:List Tx):aW :=
 if k=1 then(pL (·.1) (Ik (·.1) s.1 id) (id,(g,(vJ (·.1) s.1 FQ id).2.2)),s.2) else if k=2 then(s.1,(pL (·.1) (Ik (·.1) s.2.1 id) (id,(g,(vJ (·.1) s.2.1 Pw id).2.2)),s.2.2)) else(s.1,s.2.1,rnL s.2.2.1 id g,s.2.2.2)
def rcA(s:aW)(c:jh):aW×nR×aj :=
 if ¬c.2.1∈lG c then(s,js 1,()) else
 if c.1=15 then(s,(0,[],0,afu<|wK s c.2.1,()),()) else
 if c.1=13/\eT c.2.2.2.2.1≠0 then(s,js 1,()) else
 if rcE s c≠0 then(s,js<|rcE s c,()) else
 if c.1=13 then(rnA s c.2.1 (aR (wK s c.2.1) c.2.2.1).1 c.2.2.2.2.1,Ed (aR (wK s c.2.1) c.2.2.1).1,()) else(s,Ed (aR (wK s c.2.1) c.2.2.1).1,())
def YG{s}(h:qf s)(i:IdS s)(c:jh)(u:c.1=13\/c.1=14\/c.1=15)(v:c.2.2.2.2.1.length<=1000)
  (j:∀id,(c.2.1=1/\∃x∈s.1,x.1=id)\/(c.2.1=2/\∃x∈s.2.1,x.1=id)\/(c.2.1=3/\∃x∈s.2.2.1,x.1=id)->gV (s,c.2.1,id,c.2.2.2.2.1,())=aa (rnA s c.2.1 id c.2.2.2.2.1,())) :
  xp (s,c,())=aa (rcA s c):=by
 unfold rcA;refine ob (Jy h _) (ob (QV c)<|ob (A7 (lG c) c.2.1 (by have:=NJ c;omega)) ?_);dsimp only;by_cases m:c.2.1∈lG c
 rotate_left
 .rw[cm m,aN m];rfl
 rw[dn m,aJ λq=>q m];by_cases a:c.1=15
 .rw[aN a,au a];exact ob (Kq _ (Dy h _)<|aab h i _) rfl
 rw[aJ a,ar a];have hs:=Dz h c.2.1;have y:=Dy h c.2.1;have k:(ak (aG c.1 13) (ae (gm (c.2.2.2.2.1,())) λn=>aa (nt<|aG n.1 0))<|some false)=aa (decide<|c.1=13/\eT c.2.2.2.2.1≠0):=by
  by_cases q:c.1=13
  .rw[au q,vb _ ag,ab];by_cases b:eT c.2.2.2.2.1=0
   .rw[au b,cm λz=>z.2 b];rfl
   .rw[ar b,dn ⟨q,b⟩];rfl
  .rw[ar q,ah,cm λz=>q z.1]
 refine ob k ?_;by_cases g:c.1=13/\eT c.2.2.2.2.1≠0
 .rw[dn g,aN g];rfl
 rw[cm g,aJ g];refine ob (mM _ c.2.2.1 hs ag) ?_;have o:(ak (ak (aG (aR (wK s c.2.1) c.2.2.1).2.1 0) (aG c.1 13) false) (ae (hY (wK s c.2.1,(aR (wK s c.2.1) c.2.2.1).1,c.2.2.2.2.1,())) λp=>aa ((p.1,()),()))<|some (((aR (wK s c.2.1) c.2.2.1).2.1,()),()))=aa ((rcE s c,()),()):=by
  unfold rcE;by_cases q:(aR (wK s c.2.1) c.2.2.1).2.1=0
  .rw[au q,ai];by_cases b:c.1=13
   .rw[au b,ai,aN ⟨q,b⟩,sW _ _ _ hs ag,ab]
   .rw[ar b,ah,aJ λz=>b z.2]
  .rw[ar q,ah,ah,aJ λz=>q z.1]
 refine ob o ?_;by_cases f:rcE s c=0
 rotate_left
 .rw[aN f];rw[ar f];rfl
 rw[aJ λq=>q f];rw[au f];by_cases d:c.1=13
 .rw[aN d,au d];have t:=BB λq=>by
   unfold rcE at f;rw[aJ λz=>q z.1] at f;exact q f
  rw[j _<|zZ t];rfl
 .rw[aJ d,ar d];rfl
def Ek{s}(h:qf s)(d:∀x∈s.1,xF x.2.2.2.2.2.1) k (g:List Tx) (q:g.length<=1000) id (hx:(k=1/\∃x∈s.1,x.1=id)\/(k=2/\∃x∈s.2.1,x.1=id)):gV (s,k,id,g,())=aa (rnA s k id g,()):=by
 have n:=h.bl;have o:=h.il;unfold gV rnA;dsimp only;rcases hx with ⟨j,hx⟩|⟨m,hx⟩
 .rw[aN j,au j];obtain⟨f,i⟩:=yE (λz=>z.1) FQ hx;obtain⟨b,a⟩:=za s id h d;refine ob a ?_;have p:=(d _ i).1;refine ob (Eh s _ ag xZ xZ) ?_;dsimp only;rw[f]
 .rw[aJ ag,ar ag,aN m,au m];obtain⟨f,i⟩:=yE (λz=>z.1) Pw hx;obtain⟨b,a⟩:=xS s id h;refine ob a ?_;have p:=(h.it _ i).1;refine ob (CN s _ ag xZ xZ) ?_;rw[f]
def Td{s}(h:qf s) k (g:List Tx) (C:g.length<=1000) id (p:k=3) (hx:∃x∈s.2.2.1,x.1=id):gV (s,k,id,g,())=aa (rnA s k id g,()):=by
 have t:=h.ll;subst p;unfold gV rnA;dsimp only;rw[ar aD,ah,ar aD,ah,cY ag];rcases eL (f:=mc (s,_)) s.2.2.1 (λi=>((0,i,()),id,())) (λ_ y=>decide (y.1=id)) (λi _=>(1,(i,i,()),id,())) _ ag (λi y a m u=>by
  unfold mc;dsimp only;rw[al m,ai,aE ag ef,ai,ao a,ab,dt,dw,u];by_cases q:y.1=id<;>simp[q]) (by unfold mc;rw[aq,ah]) with ⟨j,y,a,b,d,v⟩|⟨n,_⟩
 rotate_left
 .obtain⟨y,a,A⟩:=hx;obtain⟨i,m⟩:=bq.1 a;have:=n i y m;simp[A] at this
 have b:=fU b;have D:=av a;rw[v,ab];rw[show cK 1 0=false from rfl,ah,ab];dsimp only;rw[rL _ ag,ab,aE ag ef,ao a,ab,ab,ab];unfold rnL ky;rw[(CI a b d),(z7 _ a b λi z o B=>wM (d i z o B)),b];rfl
def acf(a:Tx)(l:List Tx):Lib.join (a::l) [32]=a++l.flatMap λn=>32::n:=by
 rw[Lib.join_cons];rfl
def acg l:afu l=l.flatMap λx=>x.1++(x.2.1.flatMap λn=>32::n)++[10]:=by
 unfold afu;have:(l.flatMap λx=>ax (Lib.join (x.1::x.2.1) [32]++[10]))=ax (l.flatMap λx=>x.1++(x.2.1.flatMap λn=>32::n)++[10]):=by
  unfold ax;rw[List.map_flatMap];simp only[acf]
 rw[this,mL]
def Fe{s}(h:qf s) id (g:List Tx) (hx:∃x∈s.2.2.1,x.1=id):gW (s,3,id,g,())=aa (rnA s 3 id g,()):=by
 have p:=h.ll;obtain⟨j,y,d,m,b,t⟩:∃(j:Nat) (y:cO),s.2.2.1[j]?=aa y/\y.1=id/\_/\E6 s.2.2.1 id=aa j:=by
  rcases MR s.2.2.1 _ with ⟨j,y,d,o,b⟩|hn
  .exact⟨j,y,d,fU o,λi x a hx=>wM (b i x a hx),CI d (fU o) b⟩
  .obtain⟨x,hx,e⟩:=hx;obtain⟨i,a⟩:=bq.1 hx;exact absurd e (wM<|hn i x a)
 have k:∀i x,s.2.2.1[i]?=aa x->ak (br x.1 id) (nt<|decide<|j<i) false=decide (i=j):=λi x a=>by
  rw[dt];rcases Ll i j with q|q|q
  .rw[cm<|b i x q a,cm (show ¬i=j by omega)];rfl
  .subst q;rw[d] at a;rw[<-aF a,dn m,cm (Nat.lt_irrefl i),dn rfl];rfl
  .rw[dn q,cm (show ¬i=j by omega)];cases decide (x.1=id)<;>rfl
 have hlen:(rnL s.2.2.1 id g).length=s.2.2.1.length:=Z9 _ _ _;have n:∀i x,s.2.2.1[i]?=aa x->(rnL s.2.2.1 id g)[i]?=aa (if i=j then(x.1,x.2.1,g,x.2.2.2) else x):=λi x a=>by
  unfold rnL;rw[t,(z7 _ d m b),Option.getD_some,List.getElem?_set];by_cases q:i=j
  .subst q;rw[d] at a;rw[aN rfl,aN (av d),aN rfl,<-aF a,m]
  .rw[aJ<|λz=>q z.symm,aJ q,a]
 have key:=cB (f:=mf (s,3,id,g,())) s.2.2.1.length
  (λi=>(((),decide _,i,()),(rnL s.2.2.1 id g).take i,())) (λi a=>by
   have hx:=fX a;have u:(rnL s.2.2.1 id g).take (i+1)=(rnL s.2.2.1 id g).take i++[if i=j then(s.2.2.1[i].1,s.2.2.1[i].2.1,g,s.2.2.1[i].2.2.2) else s.2.2.1[i]]:=by rw[wN,n i _ hx];rfl
   unfold mf;dsimp only;rw[al a,ao hx,ab,k i _ hx,az ag,u];rw[(λz=>aH cJ)];by_cases q:i=j
   .subst q;rw[dn rfl,aN rfl,dn (TK i)];rfl
   .rw[cm q,aJ q];have e:decide (j<i+1)=decide (j<i):=gO.2 ag;rw[e];rfl) (by
   unfold mf;rw[aq,JG ag];rfl)
 unfold gW rnA;dsimp only;exact ob key rfl
def G7{s}(h:qf s) k id (g:List Tx) (hx:(k=1/\∃x∈s.1,x.1=id)\/(k=2/\∃x∈s.2.1,x.1=id)\/(k=3/\∃x∈s.2.2.1,x.1=id)):gW (s,k,id,g,())=aa (rnA s k id g,()):=by
 have f:=h.bl;have i:=h.il;rcases hx with ⟨rfl,hx⟩|⟨rfl,hx⟩|⟨rfl,hx⟩
 .obtain⟨b,a⟩:=Iq s id ag;obtain⟨d,_⟩:=yE (λz=>z.1) FQ hx;unfold gW rnA;dsimp only;rw[ a,aN rfl];refine ob (Is s _ ag) ?_;rw[d]
 .obtain⟨b,a⟩:=Ip s id ag;obtain⟨d,_⟩:=yE _ Pw hx;unfold gW rnA;dsimp only;rw[ a,aJ aD,aN rfl];refine ob (Ir s _ ag) ?_;rw[d]
 .exact Fe h id g hx
def N3{x:Nm}(h:x.1.length<=1048576/\pK x.2.1):(x.1++(x.2.1.flatMap λn=>32::n)++[10]).length<=1060000:=by
 have a:(x.2.1.flatMap λn=>32::n).length<=x.2.1.length*1000:=Dx _ 1000 x.2.1 λn hn=>by have:=h.2.2 n hn;simp;omega
 have:=h.2.1;simp only[jt,iE,pM];omega
def N4(l:List Nm)(y:l.length<=60)(o:∀x∈l,x.1.length<=1048576/\pK x.2.1):AG (l,())=aa (afu l,()):=by
 rw[acg];have key:=hM (f:=qN (l,())) l (λb i=>((b,i,()),())) _ _ ag (λi x g m d=>by
  have a:((l.take i).flatMap _).length<=(l.take i).length*1060000:=Dx _ _ _ λc q=>N3 (o c<|DC q);rw[dk] at a;have j:=o x (dW g);have W9:=N3 j;simp only[jt,iE,pM] at W9;have z:=j.2.1;generalize A:(l.take i).flatMap _=O at a;have inner:=hM (f:=qM (l,()) ((O,i,()),())) x.2.1 (λb k=>((O++x.1++b,k,()),())) _ _ ag (λk n hn t u=>by
   have v:=j.2.2 n (dW hn);have p:=Dx (λn=>32::n) 1000 (x.2.1.take k) λn hn=>by have:=j.2.2 n (DC hn);simp;omega
   rw[dk] at p;unfold qM;generalize (x.2.1.take k).flatMap _=Q at p;rw[ao g,ab,al t,ab,ao hn,ab,u,aH cJ,aH (by simp only[gX,jt,iE,pM];omega),ai];simp only[gX,vL];rfl) (by
   unfold qM;rw[ao g,ab,aq];rfl)
  rw[vl] at inner;unfold qN;dsimp only;rw[al m,ao g,ab,aH ag,d,show app O x.1=O++x.1 from rfl,inner,ab];rw[aH<|by simp only[jt,iE,pM];omega];simp only[gX,vL];rfl) (by
  unfold qN;rw[aq];rfl)
 exact ob key rfl
def IB{s}(h:qf s)(j:IdS s){c}(t:c.1=13\/c.1=14\/c.1=15)(u:A8 c):sQ (s,c,())=aa (rcA s c):=by
 have g:=u.nms;have hn:lG c=Ps c.2.1 [1,2,3]:=by unfold lG;rw[aJ ag,aJ ag,aJ ag,aJ ag,aJ ag,aN t]
 have p:c.2.1∈lG c↔c.2.1=1\/c.2.1=2\/c.2.1=3:=by rw[hn,N1];simp
 unfold sQ rcA;have v:ak (nt<|aU c.2.1 1) (aU 3 c.2.1) true=decide (¬c.2.1∈lG c):=by
  by_cases q:c.2.1<1
  .rw[aT q,aV,ah,dn (by rw[p];omega)]
  .rw[aC ag];exact gO.2 (by rw[p];omega)
 rw[v];by_cases m:c.2.1∈lG c
 rotate_left
 .rw[dn m,aN m];rfl
 rw[cm<|λq=>q m,aJ (λq=>q m),Bu h,ab];by_cases a:c.1=15
 .rw[aN a,au a];exact ob (N4 _ (Dy h _)<|aab h j _) rfl
 rw[aJ a,ar a];have hs:=Dz h c.2.1;have A:=Dy h c.2.1;have n:(ak (aG c.1 13) (ae (gn (c.2.2.2.2.1,())) λy=>aa (nt<|aG y.1 0))<|some false)=aa (decide<|c.1=13/\eT c.2.2.2.2.1≠0):=by
  by_cases q:c.1=13
  .rw[au q,oy _ g.small (λx o=>by have:=g.2 x o;omega),ab];by_cases k:eT c.2.2.2.2.1=0
   .rw[au k,cm λz=>z.2 k];rfl
   .rw[ar k,dn ⟨q,k⟩];rfl
  .rw[ar q,ah,cm λz=>q z.1]
 rw[n,ab];by_cases i:c.1=13/\eT c.2.2.2.2.1≠0
 .rw[dn i,aN i];rfl
 rw[cm i,aJ i,oD _ _ hs ag,ab];unfold rcE;by_cases b:(aR (wK s c.2.1) c.2.2.1).2.1=0
 rotate_left
 .rw[aJ<|show ¬((aR (wK s c.2.1) c.2.2.1).2.1=0/\c.1=13) from λz=>b z.1,aN b,ar b];rfl
 rw[au b];by_cases d:c.1=14
 .rw[aJ<|show ¬((aR _ c.2.2.1).2.1=0/\c.1=13) by omega,aJ (λz=>z b),aJ ag,au d];rfl
 have f:c.1=13:=ag;rw[aN<|show(aR _ c.2.2.1).2.1=0/\c.1=13 from⟨b,f⟩,aN f,ar d,wq _ _ _ hs g.small (λx o=>by have:=g.2 x o;omega),ab];by_cases c3:pD (wK s c.2.1) (aR (wK s c.2.1) c.2.2.1).1 c.2.2.2.2.1=0
 rotate_left
 .rw[aN c3,ar c3];rfl
 rw[aJ<|λz=>z c3,au c3];exact ob (G7 h _ _ _<|zZ b) rfl
def qf.tree{s}(h:qf s)(p:Tx):ma (s,p,())=aa ((mN s.2.2.1 s.2.2.2.1 p).1,(mN s.2.2.1 s.2.2.2.1 p).2,()) :=
 NL s p (by have:=h.ll;omega) (λx a=>(h.ln x a).small)
def Kr{s}(h:qf s)(a:Tx):yX (s,a,())=aa (dfA s a,()):=by
 unfold dfA;refine ob (jQ s a h) ?_;by_cases c:(aR (iA s) a).2.1=0
 rotate_left
 .rw[ar c,aN c];rfl
 rw[au c,aJ λq=>q c];exact ob (CL s _ (by have:=h.ll;omega) λx b=>(h.ln x b).small) rfl
def IC{s}(h:qf s)(p:Tx):iT (s,p,())=aa ((Bn s p).1,(Bn s p).2,()):=by
 unfold iT Bn;by_cases q:p=[]
 .rw[ck q,ai,aN q]
 .rw[aY q,aJ q];exact ob (h.tree p) rfl
def Ff{s}(h:qf s)(a:Tx):tI (s,a,())=aa (chA s a,()):=by
 unfold chA;refine ob (jQ s a h) ?_;by_cases c:(aR (iA s) a).2.1=0
 rotate_left
 .rw[ar c,aN c];rfl
 rw[au c,aJ λq=>q c];refine ob (CL s _ (by have:=h.ll;omega) λx i=>(h.ln x i).small) ?_;refine ob (h.tree _) ?_;by_cases b:(mN s.2.2.1 s.2.2.2.1 (aR (iA s) a).1).2=0
 rotate_left
 .rw[ar b,aN b];rfl
 rw[au b,aJ λq=>q b];refine ob (IC h _) ?_;by_cases c3:(Bn s (tU s (aR (iA s) a).1).1.2.1).2=0
 rotate_left
 .rw[ar c3,aN c3];rfl
 rw[au c3,aJ λq=>q c3];have d:=Du c3;have f:=E8 b;have hs:=QX d f;have g:=Wg _ _ (fE d) (fE f);unfold Pv at g;rw[aN ⟨d,f⟩] at g;refine ob g ?_;exact ob (ab6 _ hs.1 hs.2) rfl
def ID{s}(h:qf s)(b:s.2.2.2.2.1.length<=50000)(a:Tx):xr (s,a,())=aa (dlS s a):=by
 have d:=h.ll;have f:=h.il;have g:=h.bl;unfold dlS;refine ob (fF s a h) ?_;by_cases c:(aR (iA s) a).2.1=0
 rotate_left
 .rw[ar c,aN c];rfl
 rw[au c,aJ λq=>q c];refine ob (G3 s _ ag ag ag) ?_;cases i:Ee s (aR _ a).1 with
 | true =>
   rfl
 | false =>
   rw[aI,ai,(lH s _ ag).2,ab,ab];by_cases q:0<tV s (aR (iA s) a).1
   .rw[aT q,aN (.inr q)];rfl
   .rw[aC ag,aJ (by rintro(k|k);cases k;exact q k)];exact ob (Br s _ ag ag) rfl
def N5{s}(h:qf s)(a:Tx):AE (s,a,())=aa (dfA s a,()):=by
 unfold dfA;refine ob (fF s a h) ?_;by_cases c:(aR (iA s) a).2.1=0
 rotate_left
 .rw[ar c,aN c];rfl
 rw[au c,aJ λq=>q c];exact ob (Jz s _ (by have:=h.ll;omega)) rfl
def G8{s}(h:qf s)(a:Tx):vr (s,a,())=aa (chA s a,()):=by
 have n:=h.ll;unfold chA;refine ob (fF s a h) ?_;by_cases c:(aR (iA s) a).2.1=0
 rotate_left
 .rw[ar c,aN c];rfl
 rw[au c,aJ λq=>q c];refine ob (A5 s _ ag) ?_;by_cases g:(mN s.2.2.1 s.2.2.2.1 (aR (iA s) a).1).2=0
 rotate_left
 .rw[ar g,aN g];rfl
 rw[au g,aJ λq=>q g];refine ob (Jz s _ ag) ?_;have fin:∀b,b=Bn s (tU s (aR (iA s) a).1).1.2.1->b.2=0->(ae (mA (b.1,_)) λo=>ae (ss (o.1,())) λp=>aa (((0:Int),(aR (iA s) a).1,(0:Int),p.1,()),())) =
   aa _:=λb d f=>by
  subst d;have i:=Du f;have j:=E8 g;have hs:=QX i j;have m:=NU _ _ (fE i) (fE j);unfold Pv at m;rw[aN ⟨i,j⟩] at m;refine ob m ?_;exact ob (Tb _ hs.1 hs.2) rfl
 generalize (tU s (aR _ a).1)=L at fin;by_cases q:L.1.2.1=[]
 .have d:Bn s L.1.2.1=([],0):=by unfold Bn;rw[aN q]
  rw[show br L.1.2.1 []=true from ck q,aV,ah,ab];rw[ aJ (by rw[d];exact λk=>k rfl)];exact fin ([],0) d.symm rfl
 .have d:Bn s L.1.2.1=mN s.2.2.1 s.2.2.2.1 L.1.2.1:=by unfold Bn;rw[aJ q]
  rw[show br L.1.2.1 []=false from aY q,aI,ai,A5 s _ ag,ab];by_cases f:(mN s.2.2.1 s.2.2.2.1 L.1.2.1).2=0
  .rw[au f,aV,ah,ab];rw[ aJ (by rw[d];exact λk=>k f)];exact fin _ d.symm f
  .rw[ar f,aI,ai,Ko,ab,ab];rw[show cK 1 0=false from rfl,ah,aN (by rw[d];exact f),d]
def doA(s:aW)(c:jh):aW×nR×aj :=
 if c.1=1 then crS s c.2.2.2.1 c.2.2.2.2.1 c.2.2.2.2.2.1 c.2.2.2.2.2.2.2.1 else
 if c.1=2 then dlS s c.2.2.1 else if c.1=3 then(s,dfA s c.2.2.1,()) else if c.1=4 then(s,chA s c.2.2.1,()) else
 if c.1=5 then ctA s c.2.2.1 1 else if c.1=6 then ctA s c.2.2.1 (-1) else
 if c.1=7 then crI s c.2.2.2.1 c.2.2.2.2.1 c.2.2.2.2.2.1 c.2.2.2.2.2.2.2.1 else if c.1=8 then acd s c.2.2.1 else
 if c.1=11 then crB s c.2.2.2.1 c.2.2.2.2.1 c.2.2.2.2.2.1 c.2.2.2.2.2.2.2.1 else if c.1=12 then ace s c.2.2.1 else
 if c.1=9\/c.1=10 then itA s c else if c.1=13\/c.1=14\/c.1=15 then rcA s c else(s,js 1,())
structure A24 (s:aW):Prop where
 hd:qf s
 ids:IdS s
 bits:∀x∈s.1,xF x.2.2.2.2.2.1
 ml:s.2.2.2.2.1.length<=1000
def YH{s}(h:A24 s){c}(f:A8 c):AH (s,c,())=aa (doA s c):=by
 have hd:=f.data;unfold AH doA;dsimp only;by_cases i:c.1=1
 .rw[aN i,au i];exact ob (z8 h.hd _ f.nms _ _ ag) rfl
 rw[aJ i,ar i];by_cases j:c.1=2
 .rw[aN j,au j];exact ob (ID h.hd (by have:=h.ml;omega) _) rfl
 rw[aJ j,ar j];by_cases k:c.1=3
 .rw[aN k,au k];exact ob (N5 h.hd _) rfl
 rw[aJ k,ar k];by_cases m:c.1=4
 .rw[aN m,au m];exact ob (G8 h.hd _) rfl
 rw[aJ m,ar m];by_cases n:c.1=5
 .rw[aN n,au n];exact ob (Kp h.hd (by have:=h.ml;omega) _) rfl
 rw[aJ n,ar n];by_cases o:c.1=6
 .rw[aN o,au o];exact ob (G5 h.hd (by have:=h.ml;omega) _) rfl
 rw[aJ o,ar o];by_cases p:c.1=7
 .rw[aN p,au p];exact ob (Iz h.hd _ f.nms _ _) rfl
 rw[aJ p,ar p];by_cases t:c.1=8
 .rw[aN t,au t];exact ob (Iu h.hd _) rfl
 rw[aJ t,ar t];by_cases b:c.1=11
 .rw[aN b,au b];exact ob (IA h.hd _ f.nms _ _) rfl
 rw[aJ b,ar b];by_cases d:c.1=12
 .rw[aN d,au d];exact ob (Ix h.hd (by have:=h.ml;omega) _) rfl
 rw[aJ d,ar d];have x:((ak (aG c.1 9) ((aG c.1 9,()),()) ((aG c.1 10,()),())).1).1=decide (c.1=9\/c.1=10):=by
  by_cases q:c.1=9
  .rw[au q,dn (.inl q)];rfl
  .rw[ar q];exact gO.2 ⟨.inr,λz=>z.resolve_left q⟩
 rw[x];by_cases g:c.1=9\/c.1=10
 .rw[aN g,dn g];exact ob (N2 h.hd h.bits g f) rfl
 rw[aJ g,cm g];have v:((ak (aG c.1 13) ((aG c.1 13,()),()) ((((ak (aG c.1 14) ((aG c.1 14,()),()) ((aG c.1 15,()),())).1).1,()),())).1).1=decide (c.1=13\/c.1=14\/c.1=15):=by
  by_cases q:c.1=13
  .rw[au q,dn (.inl q)];rfl
  .by_cases u:c.1=14
   .rw[ar q,au u,dn (.inr<|.inl u)];rfl
   .rw[ar q,ar u];exact gO.2 ⟨λz=>.inr (.inr z),λz=>(z.resolve_left q).resolve_left u⟩
 rw[v];by_cases a:c.1=13\/c.1=14\/c.1=15
 .rw[aN a,dn a];exact ob (IB h.hd h.ids a f) rfl
 rw[aJ a,cm a];rfl
def afB{s}(h:A24 s){c}(v:A8 c):xq (s,c,())=aa (doA s c):=by
 have hn:=v.nms.1;have hd:=v.data;have x:=h.ml;have y:=h.hd.il;unfold xq doA;dsimp only;by_cases j:c.1=1
 .rw[au j,aN j];exact ob (Bo s c.2.2.2.1 c.2.2.2.2.1 c.2.2.2.2.2.1 c.2.2.2.2.2.2.2.1 h.hd ag ag h.hd.tree) rfl
 rw[ar j,aJ j];by_cases k:c.1=2
 .rw[au k,aN k];exact ob (G0 s _ h.hd ag) rfl
 rw[ar k,aJ k];by_cases m:c.1=3
 .rw[au m,aN m];exact ob (Kr h.hd _) rfl
 rw[ar m,aJ m];by_cases n:c.1=4
 .rw[au n,aN n];exact ob (Ff h.hd _) rfl
 rw[ar n,aJ n];by_cases o:c.1=5
 .rw[au o,aN o];exact ob (ob (JC h.hd ag c.2.2.1 1) rfl) rfl
 rw[ar o,aJ o];by_cases p:c.1=6
 .rw[au p,aN p];exact ob (ob (JC h.hd ag c.2.2.1<|-1) rfl) rfl
 rw[ar p,aJ p];by_cases t:c.1=7
 .rw[au t,aN t];exact ob (GX s _ _ _ _ h.hd ag ag) rfl
 rw[ar t,aJ t];by_cases u:c.1=8
 .rw[au u,aN u];exact ob (G6 s _ h.hd) rfl
 rw[ar u,aJ u];by_cases f:c.1=11
 .rw[au f,aN f];exact ob (Iy s _ _ _ _ h.hd ag) rfl
 rw[ar f,aJ f];by_cases g:c.1=12
 .rw[au g,aN g];exact ob (Iw h.hd h.bits ag _) rfl
 rw[ar g,aJ g];rw[show(((ak _ ((aG c.1 9,()),()) _).1).1)=decide (c.1=9\/c.1=10) from by
  by_cases a:c.1=9
  .rw[au a,ai,dn (.inl a)]
  .rw[ar a];exact gO.2 ⟨.inr,λq=>q.resolve_left a⟩]
 by_cases i:c.1=9\/c.1=10
 .rw[dn i,aN i];exact ob (afA h.hd h.bits c i ag) rfl
 rw[cm i,aJ i];rw[show(((ak _ _ ((((ak _ ((aG c.1 14,()),()) _).1).1,()),())).1).1)=decide (c.1=13\/c.1=14\/c.1=15) from by
  by_cases a:c.1=13
  .rw[au a,ai,dn (.inl a)]
  .by_cases b:c.1=14
   .rw[ar a,ah,au b,ai,dn (.inr<|.inl b)]
   .rw[ar a,ar b];exact gO.2 ⟨λq=>.inr (.inr q),λq=>(q.resolve_left a).resolve_left b⟩]
 by_cases d:c.1=13\/c.1=14\/c.1=15
 .rw[dn d,aN d];refine ob (YG h.hd h.ids c d ag λid z=>?_) rfl;rcases z with q|q|⟨A,B⟩
  .exact Ek h.hd h.bits _ _ ag id (.inl q)
  .exact Ek h.hd h.bits _ _ ag id (.inr q)
  .exact Td h.hd _ _ ag id A B
 rw[cm d,aJ d];rfl
structure jC (n:Nat) (s:aW):Prop where
 bl:s.1.length<=n
 il:s.2.1.length<=n
 ll:s.2.2.1.length<=n
 dl:s.2.2.2.1.length<=n
 ml:s.2.2.2.2.1.length<=n+100
 xb:∀x∈s.1,pK x.2.1/\xF x.2.2.2.2.2.1/\x.1.length<=1048576
 xi:∀x∈s.2.1,pK x.2.1/\xF x.2.2.2.2.1/\x.1.length<=1048576
 xl:∀x∈s.2.2.1,pK x.2.2.1/\x.1.length<=1048576
def jC.up{n s}(h:jC n s):jC (n+1) s:=⟨TJ h.bl,TJ h.il,TJ h.ll,TJ h.dl,by have:=h.ml;omega,h.xb,h.xi,h.xl⟩
def jC.to{n m s}(h:jC n s)(a:n<=m):jC m s:=⟨gi h.bl a,gi h.il a,gi h.ll a,gi h.dl a,by have:=h.ml;omega,h.xb,h.xi,h.xl⟩
def jC.a{s}(h:jC 60 s):A24 s:=⟨⟨h.ll,h.il,h.bl,λx b=>(h.xl x b).1,λx b=>(h.xi x b).1,λx b=>(h.xb x b).1,λx b=>(h.xi x b).2.1⟩,⟨λx b=>(h.xb x b).2.2,λx b=>(h.xi x b).2.2,λx b=>(h.xl x b).2⟩,λx b=>(h.xb x b).2.1,by have:=h.ml;omega⟩
def jC.slf{n s}(h:jC n s)(b:n<=60):ak2 s:=⟨by have:=h.bl;omega,by have:=h.il;omega,by have:=h.ll;omega,by have:=h.dl;omega,by have:=h.ml;omega,λx a=>⟨(h.xb x a).1,(h.xb x a).2.1⟩,λx a=>⟨(h.xi x a).1,(h.xi x a).2.1⟩,λx a=>(h.xl x a).1⟩
def jC.ite{n p}[Decidable p]{u v:aW×nR×aj}(a:p->jC n u.1)(b:¬p->jC n v.1):jC n (if p then u else v).1:=by
 split
 .exact a ‹_›
 .exact b ‹_›
def aad{n s}(h:jC n s) id k:jC (n+1) (S5 s id k):=by
 have a:=h.up;have b:=(K7 (λz=>z.1) s.2.2.2.2.1 id).length_le;have d:=h.ml;refine⟨a.bl,a.il,a.ll,a.dl,?_,a.xb,a.xi,a.xl⟩;unfold S5;dsimp only;split
 .rw[vi];omega
 .omega
def aiu{n s}(h:jC n s) id:jC (n+1) (Wf s id):=by
 have a:(xQ s.2.2.1.length s.2.2.2.1).length<=n:=by rw[qg];exact h.ll
 unfold Wf;cases E6 s.2.2.1 id with
 | none=>exact aad (s:=(s.1,s.2.1,s.2.2.1,xQ s.2.2.1.length s.2.2.2.1,s.2.2.2.2)) ⟨h.bl,h.il,h.ll,a,h.ml,h.xb,h.xi,h.xl⟩ id 0
 | some i=>exact aad (s:=(s.1,s.2.1,cutAt s.2.2.1 i,cutAt _ i,s.2.2.2.2)) ⟨h.bl,h.il,gi (zX _ _) h.ll,gi (zX _ _) a,h.ml,h.xb,h.xi,λx b=>h.xl x (QS _ _ x b)⟩ id 0
def afC{n s}(h:jC n s){x}(f:pK x.2.2.1)(b:x.1.length<=1048576) d:jC (n+1) (Jv s x d):=by
 have g:=h.ll;have a:=h.up;refine⟨a.bl,a.il,?_,?_,a.ml,a.xb,a.xi,λy hy=>?_⟩
 .show(pL _ s.2.2.1 x).length<=_
  rw[vi];omega
 .show(tr _ _ _).length<=_
  unfold tr;simp only[jt,dk,qU,qg,iE,pM];omega
 .rcases(xP _).1 hy with rfl|hy
  .exact⟨f,b⟩
  .exact a.xl y hy
def aae{l d}(h:¬(dE l d).2.1≠0):(dE l d).1.length<=1048576:=by
 have:=(Cr<|BB h).2.1.2;omega
def aaf{n s}(h:jC n s){bo}(a:bo.length<=n)(b:∀x∈bo,pK x.2.1/\xF x.2.2.2.2.2.1/\x.1.length<=1048576):jC n (bo,s.2):=⟨a,h.il,h.ll,h.dl,h.ml,b,h.xi,h.xl⟩
def aag{n s}(h:jC n s){im}(a:im.length<=n)(b:∀x∈im,pK x.2.1/\xF x.2.2.2.2.1/\x.1.length<=1048576):jC n (s.1,im,s.2.2):=⟨h.bl,a,h.ll,h.dl,h.ml,h.xb,b,h.xl⟩
def IE{α}{a:α->Tx}{l p x}(h:x∈Ik a l p):x∈l:=by
 unfold Ik at h;split at h
 .exact QS _ _ x h
 .exact h
def Q1{s}(h:IdS s){k ref}(c:(aR (wK s k) ref).2.1=0):(aR (wK s k) ref).1.length<=1048576:=by
 rcases zZ c with ⟨_,x,a,e⟩|⟨_,x,a,e⟩|⟨_,x,a,e⟩
 .rw[<-e];exact h.idB x a
 .rw[<-e];exact h.idI x a
 .rw[<-e];exact h.idL x a
def ak8{n s}(h:jC n s){c}(g:A8 c):jC (n+1) (itA s c).1:=by
 have a:=h.up;refine jC.ite (λ_=>a) λ_=>jC.ite (λ_=>a) λi=>?_;have b:=Q1 ⟨λx hx=>(h.xb x hx).2.2,λx hx=>(h.xi x hx).2.2,λx hx=>(h.xl x hx).2⟩ (BB i);generalize (aR _ c.2.2.1).1=id at b;refine jC.ite (λ_=>?_) λ_=>?_
 .have d:pK (vJ (λz=>z.1) s.1 FQ id).2.1/\xF (vJ (λz=>z.1) s.1 FQ id).2.2.2.2.2.1:=by
   rcases Ta with q|q
   .exact⟨(h.xb _ q).1,(h.xb _ q).2.1⟩
   .rw[q];exact⟨G2,z6⟩
  cases f:(itF (vJ (λz=>z.1) s.1 FQ id).2.2.2.2.2.1 c id).1 with
  | none=>exact a
  | some m =>
    have j:=uM (λz=>z.1) s.1 id;have k:=h.bl;refine aaf a (by show(pL _ _ _).length<=_;rw[vi];omega) λx hx=>?_;rcases(xP _).1 hx with rfl|hx
    .exact⟨d.1,(Wj f d.2 g.key),b⟩
    .exact a.xb x (IE hx)
 .have d:pK (vJ (λz=>z.1) s.2.1 Pw id).2.1/\xF (vJ (λz=>z.1) s.2.1 Pw id).2.2.2.2.1:=by
   rcases Ta with q|q
   .exact⟨(h.xi _ q).1,(h.xi _ q).2.1⟩
   .rw[q];exact⟨G2,z6⟩
  cases f:(itF (vJ _ s.2.1 Pw id).2.2.2.2.1 c id).1 with
  | none=>exact a
  | some m =>
    have j:=uM (λz=>z.1) s.2.1 id;have k:=h.il;refine aag a (by show(pL _ _ _).length<=_;rw[vi];omega) λx hx=>?_;rcases(xP _).1 hx with rfl|hx
    .exact⟨d.1,(Wj f d.2 g.key),b⟩
    .exact a.xi x (IE hx)
def ak9{n s}(h:jC n s){c}(f:A8 c):jC (n+1) (rcA s c).1:=by
 have a:=h.up;refine jC.ite (λ_=>a) λ_=>jC.ite (λ_=>a) λ_=>jC.ite (λ_=>a) λ_=>jC.ite (λ_=>a) λd=>jC.ite (λ_=>?_) λ_=>a;have g:=BB λq=>by
  have d:=BB d;unfold rcE at d;rw[aJ λz=>q z.1] at d;exact q d
 have b:=Q1 ⟨λx hx=>(h.xb x hx).2.2,λx hx=>(h.xi x hx).2.2,λx hx=>(h.xl x hx).2⟩ g;generalize (aR _ c.2.2.1).1=id at b;unfold rnA;split
 .have i:=uM (λz=>z.1) s.1 id;have j:=h.bl;refine aaf a (by show(pL _ _ _).length<=_;rw[vi];omega) λx hx=>?_;rcases(xP _).1 hx with rfl|hx
  .refine⟨f.nms,?_,b⟩;rcases Ta with q|q
   .exact(h.xb _ q).2.1
   .rw[q];exact z6
  .exact a.xb x (IE hx)
 split
 .have i:=uM (λz=>z.1) s.2.1 id;have j:=h.il;refine aag a (by show(pL _ _ _).length<=_;rw[vi];omega) λx hx=>?_;rcases(xP _).1 hx with rfl|hx
  .refine⟨f.nms,?_,b⟩;rcases Ta with q|q
   .exact(h.xi _ q).2.1
   .rw[q];exact z6
  .exact a.xi x (IE hx)
 .refine⟨a.bl,a.il,by show(rnL _ _ _).length<=_;rw[Z9];exact a.ll,a.dl,a.ml,a.xb,a.xi,λx hx=>?_⟩;rcases List.mem_or_eq_of_mem_set hx with hx|rfl
  .exact h.xl x hx
  .exact⟨f.nms,b⟩
def Wn{n s}(h:jC n s){c}(d:A8 c):jC (n+1) (doA s c).1:=by
 have a:=h.up;have g:=h.bl;have hi:=h.il;refine jC.ite (λ_=>?_) λ_=>jC.ite (λ_=>?_) λ_=>jC.ite (λ_=>a) λ_=>jC.ite (λ_=>a) λ_=>jC.ite (λ_=>?_) λ_=>jC.ite (λ_=>?_) λ_=>jC.ite (λ_=>?_) λ_=>jC.ite (λ_=>?_) λ_=>jC.ite (λ_=>?_) λ_=>jC.ite (λ_=>?_) λ_ =>
  jC.ite (λ_=>ak8 h d) λ_=>jC.ite (λ_=>ak9 h d) λ_=>a
 .unfold crS;exact jC.ite (λ_=>a) λ_=>jC.ite (λ_=>a) λ_=>jC.ite (λ_=>a) λ_=>jC.ite (λ_=>a) λ_=>jC.ite (λ_=>a) λb=>jC.ite (λ_=>a) λ_=>jC.ite (λ_=>a) λ_=>jC.ite (λ_=>a) λ_=>afC h d.nms (aae b) _
 .unfold dlS;exact jC.ite (λ_=>a) λ_=>jC.ite (λ_=>a) λ_=>aiu h _
 .unfold ctA;exact jC.ite (λ_=>a) λ_=>jC.ite (λ_=>a) λ_=>jC.ite (λ_=>a) λ_=>aad h _ _
 .unfold ctA;exact jC.ite (λ_=>a) λ_=>jC.ite (λ_=>a) λ_=>jC.ite (λ_=>a) λ_=>aad h _ _
 .unfold crI;refine jC.ite (λ_=>a) λ_=>jC.ite (λ_=>a) λ_=>jC.ite (λ_=>a) λ_=>jC.ite (λ_=>a) λb=>aag a (by rw[vi];omega) λx hx=>?_;rcases(xP _).1 hx with rfl|hx
  .exact⟨d.nms,z6,aae b⟩
  .exact a.xi x hx
 .unfold acd;exact jC.ite (λ_=>a) λ_=>jC.ite (λ_=>a) λ_=>aag a (by have:=uM (λz=>z.1) s.2.1 (aR (x7 s) c.2.2.1).1;omega) λx hx=>a.xi x (IE hx)
 .unfold crB;refine jC.ite (λ_=>a) λ_=>jC.ite (λ_=>a) λ_=>jC.ite (λ_=>a) λ_=>jC.ite (λ_=>a) λb=>jC.ite (λ_=>a) λ_=>?_;have f:jC (n+1) (crG s (if c.2.2.2.1=[] then [] else Bq s (E9 s c.2.2.2.1)) []<|Eg c.2.2.2.2.2.2.2.1).1:=by
   exact jC.ite (λ_=>a) λ_=>jC.ite (λ_=>a) λ_=>jC.ite (λ_=>a) λ_=>jC.ite (λ_=>a) λb=>jC.ite (λ_=>a) λ_=>afC h G2 (aae b) _
  refine aaf f (by rw[vi];omega) λx hx=>?_;rcases(xP _).1 hx with rfl|hx
  .exact⟨d.nms,z6,aae b⟩
  .exact a.xb x hx
 .unfold ace;have i:=uM (λz=>z.1) s.1 (aR (Dp s) c.2.2.1).1;exact jC.ite (λ_=>a) λ_=>jC.ite (λ_=>a) λ_=>aiu (aaf h ag λx hx=>h.xb x (IE hx)) _
abbrev Hc:=Int×jh×Int×Int×Int×nR×aj
abbrev s7:=List Hc×List Int×aj
def Ks{a:Type}(l:List a)(p:Nat->a->Bool):Bool:=@decide (∃(i:Nat) (x:a),l[i]?=aa x/\p i x=true) (Classical.propDecidable _)
def xT{α l p}:Ks l p=true↔∃(i:Nat) (x:α),l[i]?=aa x/\p i x=true:=@decide_eq_true_iff _ (Classical.propDecidable _)
def py{α}{l:List α}{p}(h:∀i x,l[i]?=aa x->p i x=false):Ks l p=false:=by
 cases b:Ks l p with
 | false=>rfl
 | true=>obtain⟨i,x,d,a⟩:=xT.1 b;rw[h i x d] at a;cases a
def unE(e:Hc):Int:=if e.2.2.2.2.1=3 then 9223372036854775807 else e.2.2.2.1
def ahI(e:Hc):wm (e,())=aa (unE e,()):=by
 unfold wm unE;by_cases h:e.2.2.2.2.1=3<;>simp[h,ak,aG]
def Bw(u:List Bool)(a:Int)(i:Nat)(e:Hc):Bool:=(u[i]?==aa false)&&(decide (e.2.2.2.2.1=1)&&decide (e.2.2.2.1<a))
def Q2{α}{f:(Bool×Int×aj)×aj->Option (((Bool×Int×aj)×aj)⊕(Nat×(Bool×Int×aj)×aj))} a b (l:List α) (m:l.length<=1000) p
  (g:∀(i:Nat) e,l[i]?=aa e->f ((a,i,()),())=aa (if p i e=true then .inr (1,(b,i,()),()) else .inl ((a,aw .i64 i 1,()),())))
  (d:f ((a,(l.length:Int),()),())=aa (.inr (0,(a,(l.length:Int),()),()))) :
  (Ks l p=true/\∃i,Loop f ((a,0,()),())=aa (1,(b,i,()),()))\/(Ks l p=false/\∃i,Loop f ((a,0,()),())=aa (0,(a,i,()),())):=by
 rcases eL l (λi=>((a,i,()),())) p (λi x=>(1,(b,(i:Int),()),())) _ ag (λi x hx hi j=>by rw[g i x hx,j]) d with ⟨i,x,hx,k,_,h⟩|⟨hn,h⟩
 .exact .inl ⟨xT.2 ⟨i,x,hx,k⟩,i,h⟩
 .exact .inr ⟨py hn,_,h⟩
def Q3{f:(Bool×Int×aj)×aj->Option (((Bool×Int×aj)×aj)⊕(Nat×(Bool×Int×aj)×aj))}{β}(g:Bool->β) l u (q:u.length=l.length) (o:l.length<=1000) a
  (p:∀(i:Nat) e b,l[i]?=aa e->u[i]?=aa b->f ((false,i,()),())=ak (ak (ak (nt b) (aG e.2.2.2.2.1 1) false) (aU e.2.2.2.1 a) false) (aa<|.inr (1,(true,i,()),())) (aa<|.inl ((false,aw .i64 i 1,()),())))
  (d:f ((false,(l.length:Int),()),())=aa (.inr (0,(false,(l.length:Int),()),()))) :
  ae (Loop f ((false,0,()),())) (λy=>ak (cK y.1 0) (aa<|g false) (aa<|g y.2.1.1))=aa (g<|Ks l<|Bw u a):=by
 rcases Q2 false true l o (Bw u a) (λi e m=>by
  have hi:=av m;have n:u[i]?=aa u[i]:=fX ag;rw[p i e _ m n];unfold Bw;rw[n];cases u[i]<;>by_cases j:e.2.2.2.2.1=1<;>by_cases k:e.2.2.2.1<a<;>simp[ak,nt,aG,aU,j,k]) d with ⟨j,i,k⟩|⟨j,i,k⟩
 .rw[k,j];rfl
 .rw[k,j];rfl
def N6(r:s7)(u:List Bool)(p:Nat):Bool:=match r.2.1[p]? with
 | some a=>!Ks r.1 (Bw u a)
 | none=>false
def N7(b:List Int)(p:Nat)(e:Hc):Bool:=match b[p]? with|some a=>decide (a<e.2.2.1)|none=>false
def Wo(b:List Int)(p:Nat)(e:Hc):Bool:=match(if p=0 then af else b[p-1]?) with|some a=>decide (unE e<a)|none=>false
def ach pw (p:Nat) e:ak (aU p<|len pw) (ae (idx pw p) λy=>aa (aU y e.2.2.1)) (aa false)=aa (N7 pw p e):=by
 unfold N7;rw[AK,se];by_cases h:p<pw.length
 .rw[dn h,fX h];rfl
 .rw[cm h,yH ag];rfl
def afD{a:List Int}{p e}(b:p<=a.length)(d:a.length<=1000):ak (aU 0 p) (ae (idx a<|cH .i64 p 1) λy=>aa (aU (unE e) y)) (aa false)=aa (Wo a p e):=by
 unfold Wo;cases p with
 | zero=>rfl
 | succ p =>
   rw[aT ag,dv ag ag,show((p+1:Nat):Int)-1=p by omega,se,Nat.add_sub_cancel,fX ag];rfl
def N8(r:s7)(u:List Bool)(p k:Nat)(e:Hc):Bool :=
 (u[k]?==aa false)&&(!N7 r.2.1 p e&&(!Wo r.2.1 p e&&!Ks r.1 (Bw (u.set k true) e.2.2.1)))
def YI(f e:Hc):Bool:=decide (f.2.2.2.2.1≠3)&&decide (f.2.2.2.1<e.2.2.1)
def Bx(l:List Hc)(u:List Bool)(e:Hc):List Bool:=(l.zip u).map λx=>YI x.1 e||x.2
def Te(s:aW)(c:jh):aW×nR:=if c.1=16 then(s,0,[],0,[],()) else((doA s c).1,(doA s c).2.1)
def lI(r:s7)(q:aW×List Bool×Nat)(k:Int):Option (aW×List Bool×Nat) :=
 if k=-1 then(if N6 r q.2.1 q.2.2=true then aa ((q.1.1,q.1.2.1,q.1.2.2.1,q.1.2.2.2.1,[],()),q.2.1,q.2.2+1) else af)
 else if 0<=k then(match r.1[k.toNat]? with
  | some e=>if N8 r q.2.1 q.2.2 k.toNat e=true/\(e.2.2.2.2.1=1->(Te q.1 e.2.1).2=e.2.2.2.2.2.1) then aa ((Te q.1 e.2.1).1,Bx r.1 (q.2.1.set k.toNat true) e,q.2.2) else af
  | none=>af)
 else af
def afE(a b:nR):an (aG a.1 b.1) (an (br a.2.1 b.2.1)<|an (aG a.2.2.1 b.2.2.1)<|an (br a.2.2.2.1 b.2.2.2.1) true)=decide (a=b):=by
 obtain⟨d,f,g,i,_⟩:=a;obtain⟨j,k,m,n,_⟩:=b;by_cases o:d=j<;>by_cases p:f=k<;>by_cases q:g=m<;>by_cases t:i=n<;>simp[an,aG,br]
def afF{S R}{f:S->Option (S⊕R)}(d:Int->List Bool->S) fin (l:List Hc) u w (y:u.length=l.length) (z:w.length=l.length) (c:Nat->Hc->Bool)
  (n:∀i x b,l[i]?=aa x->u[i]?=aa b->w[i]?=aa (c i x||b))
  (a:∀(i:Nat) x v,l[i]?=aa x->v.length=l.length->f (d i v)=aa (.inl<|d ((i+1:Nat):Int)<|if c i x=true then v.set i true else v)) (g:f (d l.length w)=aa (.inr fin)):Loop f (d 0 u)=aa fin:=by
 have:=cB l.length (λj=>d j (w.take j++u.drop j)) (λj o=>?_) (by
  rw[JG ag,List.drop_eq_nil_of_le ag,vl];exact g)
 .simpa using this
 .have hx:=fX o;have k:j<u.length:=ag;rw[a j _ _ hx cJ];have m:=n j _ _ hx (fX k);have p:w.take (j+1)=w.take j++[c j l[j]||u[j]]:=by rw[wN,m];rfl
  have q:(w.take j).length=j:=cJ;rw[(BK k),p,vL];cases t:c j l[j] with
  | true =>
    rw[ List.set_append_right _ _ ag,q,Nat.sub_self];rfl
  | false=>simp
def IF{l u e}(a:u.length=l.length):(Bx l u e).length=l.length:=by simp[Bx,a]
def Wp{l u e}{i:Nat}{x b}(a:l[i]?=aa x)(d:u[i]?=aa b):(Bx l u e)[i]?=aa (YI x e||b):=by
 unfold Bx;rw[Em,show _[i]?=aa (x,b) from ah2.2 ⟨a,d⟩];rfl
def YJ(x e:Hc):lB (x,e,())=aa (YI x e,()):=by
 unfold lB YI;by_cases a:x.2.2.2.2.1=3<;>by_cases b:x.2.2.2.1<e.2.2.1<;>simp[ak,nt,aG,aU]
def afG{f}(l:List Hc) u (e:Hc) (g:u.length=l.length) (n:l.length<=1000)
  (k:∀i v,f ((i,()),v,())=cl (ak (aU i<|len l) (ae (idx l i) λa=>ae (lB (a,e,())) λb=>ae (ak b.1 (ak (within i<|len v) (ae (idx v i) λ_=>ae (idx v i) λ_=>ae (idx v i) λ_=>aa ((),ky v i true,())) af)<|some ((),v,())) λz=>aa (aA ((aw .i64 i 1,()),z.2.1,())))<|some<|aB (0,(i,()),v,()))) :
  ∃j,Loop f ((0,()),u,())=aa ((j,()),Bx l u e,()):=by
 refine⟨l.length,afF (λi v=>((i,()),v,())) _ l u (Bx l u e) g (IF g) _ (λi x b d m=>Wp d m) (λi x v d o=>?_) ?_⟩
 .have hi:=av d;rw[k,al hi,ao d,ab,YJ,az ag];cases YI x e with
  | true=>rw[ aE ag ef,ao (fX ag)];rfl
  | false=>rfl
 .rw[k,aq];rfl
abbrev PlT:=aW×List Bool×Int×List Int×aj
abbrev QT:=aW×List Bool×Nat
def zP:PlT:=(([],[],[],[],[],()),[],0,[],())
def Ts(q:QT)(a:List Int):PlT:=(q.1,q.2.1,(q.2.2:Int),a,())
def ahJ(o:Option QT)(a:List Int)(k:Int):PlT×Bool×aj:=match o with|some q=>(Ts q<|a++[k],true,())|none=>(zP,false,())
def aci{β}(g:Bool->β) l {u} (f:u.length=l.length) (i:l.length<=1000) a:ae (Loop (Sv l u a) ((false,0,()),())) (λy=>ak (cK y.1 0) (aa<|g false) (aa<|g y.2.1.1))=aa (g<|Ks l<|Bw u a) :=
 Q3 g l u f i a (λj e b d k=>by
  unfold Sv;rw[al<|av d,ai,ao d,ab,ao k,ab]) (by
  unfold Sv;rw[aq,ah])
def YK{β}(g:Bool->β) l {u} (f:u.length=l.length) (i:l.length<=1000) a:ae (Loop (KV l u a) ((false,0,()),())) (λy=>ak (cK y.1 0) (aa<|g false) (aa<|g y.2.1.1))=aa (g<|Ks l<|Bw u a) :=
 Q3 g l u f i a (λj e b d k=>by
  unfold KV;dsimp only;rw[al<|av d,ai,ao d,ab,aE ag (by unfold len;have:=av d;omega),ai,ao k,ab]) (by
  unfold KV;rw[aq,ah])
def Q4(r:s7)(u:List Bool)(p:Nat):Bool:=Ks r.1 (λi e=>(u[i]?==aa false)&&decide (e.2.2.2.2.1=1))||decide (p<r.2.1.length)
def acj{β}(g:Bool->β) r {u} (m:u.length=r.1.length) (k:r.1.length<=1000) (p:Nat):ae (Loop (MJ r.1 u) ((false,0,()),())) (λy=>ak (cK y.1 0) (aa<|g<|aU p<|len r.2.1) (aa<|g y.2.1.1))=aa (g<|Q4 r u p):=by
 unfold Q4;rcases Q2 (f:=MJ r.1 u) false true r.1 k (λi e=>(u[i]?==aa false)&&decide (e.2.2.2.2.1=1)) (λi e d=>by
  have hi:=av d;have j:u[i]?=aa u[i]:=fX ag;unfold MJ;rw[al hi,ao d,ab,ao j,ab,j];cases u[i]<;>by_cases a:e.2.2.2.2.1=1<;>simp[ak,nt,aG,a]) (by
  unfold MJ;rw[aq,ah]) with ⟨a,i,b⟩|⟨a,i,b⟩
 .rw[b,a];rfl
 .rw[b,a,AK];rfl
def ack{U} r {s u p g} (w:U) (j:u.length=r.1.length) (k:r.1.length<=1000) (hpw:r.2.1.length<=1000) (m:g.length<=1000) :
  Sw r.1 r.2.1 (Ts (s,u,p) g) w=aa (ahJ (lI r (s,u,p)<|-1) g<|-1,w):=by
 unfold Sw lI Ts;dsimp only;rw[aN rfl];cases d:r.2.1[p]? with
 | none =>
   have hlen:r.2.1.length<=p:=by
    rcases rR p r.2.1.length with h|h
    .rw[fX h] at d;cases d
    .exact h
   rw[wo,dn hlen,aJ (by unfold N6;rw[d];simp)];rfl
 | some a =>
   have n:=av d;have i:N6 r u p=!Ks r.1 (Bw u a):=by unfold N6;rw[d]
   rw[wo,cm ag,ao d,ab,aci (λb=>((b,()),())) r.1 j k a];rcases WL (Ks r.1 _) with f|f
   .rw[aJ<|by rw[i,f];simp,f];rfl
   .rw[aN<|by rw[i,f];rfl,f,cY ag,aH cJ,az ag];rfl
def acm{U}(r:s7){s u p x n}(w:U)(E:n<r.1.length)(F:u.length=r.1.length)(B:r.1.length<=1000)(G:p<=r.2.1.length)(y:r.2.1.length<=1000)(H:x.length<=1000)(I:A24 s)(J:∀e∈r.1,A8 e.2.1) :
  Sx r.1 r.2.1 (Ts (s,u,p) x) n w=aa (ahJ (lI r (s,u,p) n) x n,w):=by
 have o:=fX E;generalize r.1[n]=e at o;unfold Sx lI Ts;rw[aJ ag,aN ag,vM,o];dsimp only;have k:(u.set n true).length=r.1.length:=by simp[F]
 rw[ao o,ab,ach,ab,ahI,ab,afD G y,ab];unfold N8;have C:u[n]?=aa u[n]:=fX ag;rw[ao C,ab,C];cases u[n] with
 | true=>rfl
 | false =>
   rcases WL (N7 r.2.1 p e) with q|q
   .rw[q];rfl
   rcases WL (Wo r.2.1 p e) with z|z
   .rw[q,z];rfl
   rw[q,z,cY ag,cY ag,aH cJ,aE ag ef,ab,ab,ab,zJ,YK (λb=>((b,()),w)) r.1 k B,ab];rcases WL (Ks r.1 _) with A|A
   .rw[A];rfl
   rw[A];have m:∀a,ak (aG e.2.2.2.2.1 1) (nt<|an (aG a.1 e.2.2.2.2.2.1.1) _) false=!decide (e.2.2.2.2.1=1->a=e.2.2.2.2.2.1):=λa=>by
    rw[afE];by_cases K:e.2.2.2.2.1=1<;>by_cases L:a=e.2.2.2.2.2.1<;>simp[ak,nt,aG]
   obtain⟨j,D⟩:=afG (f:=aeu r.1 e) r.1 _ e k B (λi v=>rfl);by_cases t:e.2.1.1=16
   .have d:Te s e.2.1=_:=aN t;rw[au t,m (0,[],0,[],()),d];by_cases g:(e.2.2.2.2.1=1->((0,[],0,[],()):nR)=e.2.2.2.2.2.1)
    .rw[dn g,Bool.not_true,aN ⟨rfl,g⟩];exact ob D rfl
    .rw[cm g,aJ λh=>g h.2];rfl
   .have d:Te s e.2.1=_:=aJ t;rw[ar t,afB I (J e<|dW o),ab,m,d];by_cases g:(e.2.2.2.2.1=1->(doA s e.2.1).2.1=e.2.2.2.2.2.1)
    .rw[dn g,aN ⟨rfl,g⟩];exact ob D rfl
    .rw[cm g,aJ λh=>g h.2];rfl
structure Iv (r:s7) (n:Nat) (q:aW×List Bool×Nat):Prop where
 st:jC n q.1
 us:q.2.1.length=r.1.length
 pw:q.2.2<=r.2.1.length
def Iv.to{r n m q}(h:Iv r n q)(k:n<=m):Iv r m q:=⟨h.st.to k,h.us,h.pw⟩
def afJ{r n q i k}(h:Iv r n q)(j:∀e∈r.1,A8 e.2.1)(b:lI r q k=aa i):Iv r (n+1) i:=by
 unfold lI at b;split at b
 .split at b
  case isFalse=>cases b
  rename_i g;obtain rfl:=aF b;have d:=h.st.up;refine⟨⟨d.bl,d.il,d.ll,d.dl,aS,d.xb,d.xi,d.xl⟩,h.us,?_⟩;unfold N6 at g;cases f:r.2.1[q.2.2]? with
  | none=>rw[f] at g;cases g
  | some a=>exact av f
 .split at b
  case isFalse=>cases b
  cases f:r.1[k.toNat]? with
  | none=>rw[f] at b;cases b
  | some e =>
    rw[f] at b;dsimp only at b;split at b
    case isFalse=>cases b
    obtain rfl:=aF b;refine⟨?_,IF (by simp[h.us]),h.pw⟩;unfold Te;split
    .exact h.st.up
    .exact Wn h.st (j e<|dW f)
def xU(r:s7)(a:aW->Bool):Nat->QT->List Int->Option (List Int)
 | 0,_,_=>af
 | n+1,q,b=>if(!Q4 r q.2.1 q.2.2&&a q.1)=true then aa b else
   match(lI r q<|-1).bind λd=>xU r a n d (b++[-1]) with
   | some o=>aa o
   | none=>(List.range' 0 r.1.length).findSome? λ(k:Nat)=>(lI r q (k:Int)).bind λd=>xU r a n d (b++[(k:Int)])
def muQ(r:s7)(q:QT):Nat:=(r.2.1.length-q.2.2)+q.2.1.count false
def JD e:∀l u,(Bx l u e).count false<=u.count false
 | [],u=>by simp[Bx]
 | x::l,[]=>by simp[Bx]
 | x::l,b::u=>by
   have:=JD e l u;unfold Bx at this⊢;simp;cases b<;>cases YI x e<;>simp<;>omega
def afK{r n q j k}(h:Iv r n q)(b:lI r q k=aa j):muQ r j<muQ r q:=by
 unfold lI at b;split at b
 .split at b
  case isFalse=>cases b
  rename_i g;obtain rfl:=aF b;unfold N6 at g;unfold muQ;cases f:r.2.1[q.2.2]? with
  | none=>rw[f] at g;cases g
  | some a=>have:=av f;dsimp only;omega
 .split at b
  case isFalse=>cases b
  cases f:r.1[k.toNat]? with
  | none=>rw[f] at b;cases b
  | some e =>
    rw[f] at b;dsimp only at b;split at b
    case isFalse=>cases b
    rename_i hn;obtain rfl:=aF b;have i:q.2.1[k.toNat]?=aa false:=by
     have:=hn.1;unfold N8 at this;simp at this;exact this.1
    have d:=av i;have m:q.2.1[k.toNat]=false:=by rw[fX d] at i;exact aF i
    have o:=JD e r.1 (q.2.1.set k.toNat true);have p:(q.2.1.set k.toNat true).count false=q.2.1.count false-1:=by
     rw[List.count_set d,m];simp
    have t:=List.count_pos_iff.2 (m▸ac7 d);unfold muQ;dsimp only;omega
def rO{U:Type}(a:List Int->U->U)(w:U)(o:Option (List Int)):(Bool×aj)×U:=((o.isSome,()),match o with|some o=>a o w|none=>w)
def aah{U r fb n q d}(w:U)(j)(REC)(f:∀k b,lI r q k=aa b->REC ((r,Ts b<|d++[k],()),w)=aa (rO j w<|xU r fb n b<|d++[k]))
  (p:Iv r 60 q) (y:r.1.length<=5) (u:r.2.1.length<=10) (x:∀e∈r.1,A8 e.2.1) (g:d.length<=1000) :
  ∀m i,i+m=r.1.length->ae (Loop (Gu REC ((r,Ts q d,()),w)) ((false,i,()),w)) (λt=>ak (cK t.1 0) (aa ((false,()),t.2.2)) (aa ((t.2.1.1,()),t.2.2)))=aa (rO j w<|(List.range' i m).findSome? λ(k:Nat)=>(lI r q k).bind λb=>xU r fb n b (d++[(k:Int)]))
 | 0,i,z=>by
   have v:Gu REC ((r,Ts q d,()),w) ((false,(i:Int),()),w)=aa (.inr (0,(false,i,()),w)):=by
    unfold Gu;rw[show i=r.1.length by omega,aq,ah]
   rw[aO,v];rfl
 | m+1,i,z=>by
   have v:Gu REC ((r,Ts q d,()),w) ((false,i,()),w)=match(lI r q i).bind λb=>xU r fb n b (d++[(i:Int)]) with
     | some o=>aa (.inr (1,(true,i,()),j o w))
     | none=>aa (.inl ((false,((i+1):Int),()),w)):=by
    unfold Gu;dsimp only;rw[al ag,(acm r w ag p.us ag p.pw ag g p.st.a x),ab,az ag];cases hs:lI r _ i with
    | none=>rfl
    | some b =>
      unfold ahJ;rw[ f _ _ hs,PJ];cases xU r fb n b _<;>rfl
   rw[aO,v,List.range'_succ,List.findSome?_cons];cases (lI r q i).bind λb=>xU r fb n b _ with
   | some o=>rfl
   | none=>exact(aah w j REC f p y u x g m (i+1) ag)
def Wq{U}(i:PlT->U->Option (Bool×aj))(t:PlT->U->U) fb m w (S:Nat->((s7×PlT×aj)×U)->Option ((Bool×aj)×U)) (v:∀n x,S (n+1) x=HV i t (S n) x)
  {r} (hn:r.1.length<=5) (hpw:r.2.1.length<=10) (hC:∀e∈r.1,A8 e.2.1) (u:∀q a,Iv r 60 q->i (Ts q a) w=aa (fb q.1,())/\t (Ts q a) w=m a w) :
  ∀n q a,Iv r (60-muQ r q) q->muQ r q<n->muQ r q<=50->a.length+muQ r q<=100->S n ((r,Ts q a,()),w)=aa (rO m w<|xU r fb n q a)
 | 0,_,_,_,h,_,_=>ag
 | n+1,q,a,p,z,A,B=>by
   have j:=p.to (by omega:60-muQ r q<=60);have y:∀k f,lI r q k=aa f->S n ((r,Ts f<|a++[k],()),w)=aa _:=λk f hs=>by
    have C:=afK p hs;exact Wq i t fb m w S v hn hpw hC u n f _ ((afJ p hC hs).to ag) ag ag cJ
   have g:=aah w m _ y j hn hpw hC ag r.1.length 0 ag;have d:MK (S n) ((r,Ts q a,()),w) w=aa (rO m w<|match(lI r q<|-1).bind λf=>xU r fb n f (a++[-1]) with
     | some o=>aa o
     | none=>(List.range' 0 r.1.length).findSome? λ(k:Nat)=>(lI r q k).bind λf=>xU r fb n f (a++[(k:Int)])):=by
    unfold MK;rw[show Sw r.1 r.2.1 _ w=_ from ack r w p.us ag ag ag,ab];cases hs:lI r _ (-1) with
    | none=>exact g
    | some f =>
      unfold ahJ;rw[ y _ _ hs,PJ];cases xU r fb n f _ with
      | some o=>rfl
      | none=>exact g
   rw[v];unfold xU;refine ob (acj (λb=>((b,()),w)) r p.us ag q.2.2) ?_;cases Q4 r q.2.1 q.2.2 with
   | true=>exact d
   | false =>
     rw[(u q a j).1];cases fb q.1 with
     | true=>show aa ((true,()),t (Ts q a) w)=_;rw[(u q a j).2];rfl
     | false=>exact d
def Fi{d:Type}(a b:d):Bool:=@decide (a=b) (Classical.propDecidable _)
def Aa{α}{a b:α}:Fi a b=true↔a=b:=@decide_eq_true_iff _ (Classical.propDecidable _)
def tW{α β}{f:(Bool×Int×aj)×aj->Option (((Bool×Int×aj)×aj)⊕(Nat×(Bool×Int×aj)×aj))}(g:Bool->β)(l m:List α)(q:l.length<=1000000)
  (n:l.length=m.length->∀i x y,l[i]?=aa x->m[i]?=aa y->x∈l->i<l.length->i<m.length->f ((false,i,()),())=aa (ak (Fi x y) (.inl ((false,aw .i64 i 1,()),()))<|.inr (1,(false,i,()),())))
  (o:l.length=m.length->f ((false,(l.length:Int),()),())=aa (.inr (0,(false,(l.length:Int),()),()))) :
  ak (nt<|aG (len l)<|len m) (aa<|g false) (ae (Loop f ((false,0,()),())) λd=>ak (cK d.1 0) (aa<|g true) (aa<|g d.2.1.1))=aa (g<|Fi l m):=by
 rw[MN];by_cases a:l.length=m.length
 case neg =>
  rw[cm a,show Fi l m=false from Bool.eq_false_iff.2 λh=>a (by rw[Aa.1 h])];rfl
 rw[dn a];rcases eL l (λi=>((false,i,()),())) (λi x=>match m[i]? with|some y=>!Fi x y|none=>false) _ _ ag (λi x hx hi p=>by
  have j:i<m.length:=ag;have hy:=fX j;rw[n a i x _ hx hy (dW hx) hi j,p,hy];rcases WL (Fi x m[i]) with h|h
  .rw[aJ<|by simp[h],h];rfl
  .rw[aN<|by simp[h],h];rfl) (o a) with ⟨i,x,hx,k,_,h⟩|⟨hn,h⟩
 .rw[h,show Fi l m=false from Bool.eq_false_iff.2 λh=>by
   have e:=Aa.1 h;subst e;rw[hx] at k;have:Fi x x=true:=Aa.2 rfl;simp[this] at k]
  rfl
 .rw[h,show Fi l m=true from Aa.2 (DE λi=>by
   rcases rR i l.length with b|b
   .have hx:=fX b;have hy:=fX (show i<m.length by omega);have:=hn i _ hx;rw[hy] at this;have e:=Aa.1 (by simpa using this);rw[hx,hy,e]
   .rw[yH b,yH ag])]
  rfl
def Wr(l m:List Tx)(h:l.length<=1000000):bE (l,m,())=aa (Fi l m,()):=by
 refine tW (λb=>(b,())) l m h (λa i x y d f k g n=>?_) (λa=>?_)
 .unfold cG;rw[al g,ao d,ao f,ab,ab];by_cases j:x=y<;>simp[ak,nt,br,Fi,j]
 .unfold cG;rw[aq];rfl
def Tf(l m:List Tx)(h:pK l):bE (l,m,())=aa (Fi l m,()):=Wr l m (by have:=h.1;omega)
def Ws(l m:List It)(h:xF l):dT (l,m,())=aa (Fi l m,()):=by
 refine tW (λb=>(b,())) l m (by have:=h.1;omega) (λd i x y f g z j a=>?_) (λd=>?_)
 .unfold eK;rw[al j,ao f,ao g,ab,ab];obtain⟨k,n,o,_⟩:=x;obtain⟨p,q,t,_⟩:=y;by_cases u:k=p<;>by_cases a:n=q<;>by_cases v:o=t<;>simp[ak,nt,an,br,Fi,u,a,v]
 .unfold eK;rw[aq];rfl
def aco(l m:List xE)(h:l.length<=1000000):eS (l,m,())=aa (Fi l m,()):=by
 refine tW (λb=>(b,())) l m h (λd i x y f g t j a=>?_) (λd=>?_)
 .unfold et;rw[al j,ao f,ao g,ab,ab];obtain⟨k,n,_⟩:=x;obtain⟨o,p,_⟩:=y;by_cases q:k=o<;>by_cases a:n=p<;>simp[ak,nt,an,br,aG,Fi,q,a]
 .unfold et;rw[aq];rfl
def ajz(x y:AL)(h:pK x.2.1/\xF x.2.2.2.2.2.1):qP (x,y,())=aa (Fi x y,()):=by
 unfold qP;rw[Tf _ _ h.1,Ws _ _ h.2];obtain⟨a,b,d,f,g,i,_⟩:=x;obtain⟨j,k,m,n,o,p,_⟩:=y;by_cases q:a=j<;>by_cases t:b=k<;>by_cases u:d=m<;>by_cases v:f=n<;>by_cases z:g=o<;>by_cases A:i=p<;>simp[ak,ae,br,Fi,q,t,u,v,z]
def afL(x y:lC)(h:pK x.2.1/\xF x.2.2.2.2.1):qQ (x,y,())=aa (Fi x y,()):=by
 unfold qQ;rw[Tf _ _ h.1,Ws _ _ h.2];obtain⟨a,b,d,f,g,_⟩:=x;obtain⟨i,j,k,m,n,_⟩:=y;by_cases o:a=i<;>by_cases p:b=j<;>by_cases q:d=k<;>by_cases t:f=m<;>by_cases u:g=n<;>simp[ak,ae,br,Fi,o,p,q,t]
def afM(x y:cO)(h:pK x.2.2.1):qR (x,y,())=aa (Fi x y,()):=by
 unfold qR;rw[Tf _ _ h];obtain⟨a,b,d,f,g,i,j,_⟩:=x;obtain⟨k,m,n,o,p,q,t,_⟩:=y;by_cases u:a=k<;>by_cases v:b=m<;>by_cases z:d=n<;>by_cases A:f=o<;>by_cases B:g=p<;>by_cases C:i=q<;>cases j<;>cases t<;>simp[ak,ae,br,aG,eqB,Fi,u,v,z,A]
def YL{s}(h:ak2 s)(t:aW):sV (s,t,())=aa (Fi s t,()):=by
 refine ob (tW (λb=>((b,()),())) s.1 t.1 h.bl (λa i x y d f g j k=>?_) λa=>?_) ?_
 .unfold vu;rw[al j,ao d,ao f,ab,ab,ajz _ _ (h.xb x g)];cases Fi x y<;>rfl
 .unfold vu;rw[aq];rfl
 refine ob (tW (λb=>((b,()),())) s.2.1 t.2.1 h.il (λa i x y d f g j k=>?_) λa=>?_) ?_
 .unfold vv;rw[al j,ao d,ao f,ab,ab,afL _ _ (h.xi x g)];cases Fi x y<;>rfl
 .unfold vv;rw[aq];rfl
 refine ob (tW (λb=>((b,()),())) s.2.2.1 t.2.2.1 h.ll (λa i x y d f g j k=>?_) λa=>?_) ?_
 .unfold vw;rw[al j,ao d,ao f,ab,ab,afM _ _ (h.xl x g)];cases Fi x y<;>rfl
 .unfold vw;rw[aq];rfl
 rw[Wr _ _ h.dl,aco _ _ h.ml];obtain⟨m,n,o,p,q,_⟩:=s;obtain⟨u,v,z,A,B,_⟩:=t;by_cases C:m=u<;>by_cases k:n=v<;>by_cases D:o=z<;>by_cases E:p=A<;>by_cases F:q=B<;>simp[ak,ae,Fi,C,k,D,E]
abbrev afN:nR:=(0,[],0,[],())
def ahK a:an (aG a.1 0) (an (br a.2.1 [])<|an (aG a.2.2.1 0)<|an (br a.2.2.2.1 []) true)=decide (a=afN):=afE a afN
def acp(e:Hc):Bool:=(decide (e.2.2.2.2.1=1)&&decide (e.2.2.1<e.2.2.2.1))||((decide (e.2.2.2.2.1=2)&&(decide (e.2.2.1<e.2.2.2.1)&&decide (e.2.2.2.2.2.1=afN)))||(decide (e.2.2.2.2.1=3)&&(decide (e.2.2.2.1=0)&&decide (e.2.2.2.2.2.1=afN))))
def acq(e:Hc)(a:Int):Bool:=decide (a=e.2.2.1)||(decide (a=e.2.2.2.1)||(decide (e.2.2.1<a)&&(decide (e.2.2.2.2.1=3)||decide (a<e.2.2.2.1))))
def Q5(e f:Hc):Bool:=decide (f.1=e.1)&&(decide (f.2.2.2.2.1=3)||decide (e.2.2.1<=f.2.2.2.1))
def N9(l:List Hc)(i:Nat):Int:=if i=0 then 0 else match l[i-1]? with|some e=>e.2.2.1|none=>0
def acr(r:s7)(i:Nat)(e:Hc):Bool:=decide (e.2.2.1<=N9 r.1 i)||(!acp e||(Ks (r.1.take i) (λ_ f=>Q5 e f)||Ks r.2.1 λ_ a=>acq e a))
def aai(l:List Int):Prop:=∀(k:Nat) a b,l[k]?=aa a->l[k+1]?=aa b->a<b
def Tg(r:s7):Bool:=!Ks r.1 (acr r)&&@decide (aai r.2.1) (Classical.propDecidable _)
def acs(e:Hc) a:uH (e,a,())=aa (!acq e a,()):=by
 unfold uH acq;by_cases g:a=e.2.2.1
 .simp[ak,nt,aG,g]
 by_cases d:a=e.2.2.2.1
 .rw[au d,dn d];simp[ak,nt]
 rw[ar g,ar d,cm g,cm d];by_cases f:a<e.2.2.1
 .have:¬e.2.2.1<a:=ag;simp[ak,nt,aU,f,this]
 .have b:e.2.2.1<a:=ag;by_cases i:e.2.2.2.2.1=3
  .simp[ak,nt,aG,aU,f,b,i]
  .by_cases j:a<e.2.2.2.1
   .have:¬e.2.2.2.1<a:=ag;simp[ak,nt,aG,aU,f,b,i,j,this]
   .have:e.2.2.2.1<a:=ag;simp[ak,nt,aG,aU,f,b,j,this]
def Wt(e:Hc):nK (e,())=aa (acp e,()):=by
 unfold nK acp;rw[ahK];by_cases a:e.2.2.2.2.1=1
 .simp[ak,aG,aU,a]
 by_cases b:e.2.2.2.2.1=2
 .simp[ak,aG,aU,b]
 by_cases d:e.2.2.2.2.1=3
 .simp[ak,aG,d]
 .simp[ak,aG,a,b,d]
def acu(a:(Int×Int×Int×aj)×s7×aj){i:Nat}{e:Hc}(g:a.1.2.2.1=i)(u:a.2.1.1.length<=1000) :
  ae (Loop (iX a) ((0,0,()),e,())) (λb=>ak (cK b.1 0) (aa ((false,()),b.2.2.1,())) (aa ((cw 0 b.2.1.1,()),b.2.2.1,())))=aa ((Ks (a.2.1.1.take i)<|λ_ f=>Q5 e f,()),e,()):=by
 have hs:sub a.2.1.1 0 (minus a.1.2.2.1 0)=a.2.1.1.take i:=by rw[g];unfold sub minus;simp
 have k:(a.2.1.1.take i).length<=1000:=cJ;rcases eL (f:=iX a) (a.2.1.1.take i) (λj=>((0,j,()),e,())) (λ_ f=>Q5 e f) (λj f=>(1,(j,j,()),e,())) _ ag (λj f d m n=>by
  unfold iX Q5;rw[hs,al m,ao d,ab,n];by_cases o:f.1=e.1<;>by_cases p:f.2.2.2.2.1=3<;>by_cases q:e.2.2.1<=f.2.2.2.1<;>simp[ak,nt,aG,cw,o,p,q]) (by
  unfold iX;rw[hs,aq,ah]) with ⟨j,f,d,t,_,h⟩|⟨hn,h⟩
 .refine ob h ?_;rw[xT.2 ⟨j,f,d,t⟩];dsimp only;rw[gM,ah,bA ag]
 .refine ob h ?_;rw[py hn];rfl
def afO(b:(Int×Int×Int×aj)×s7×aj){e:Hc}(n:b.2.1.2.1.length<=1000) :
  ae (Loop (iY b) ((0,0,()),e,())) (λd=>ak (cK d.1 0) (aa ((false,()),d.2.2.1,())) (aa ((cw 0 d.2.1.1,()),d.2.2.1,())))=aa ((Ks b.2.1.2.1<|λ_ a=>acq e a,()),e,()):=by
 rcases eL (f:=iY b) b.2.1.2.1 (λj=>((0,j,()),e,())) (λ_ a=>acq e a) _ _ ag (λj a g i k=>by
  unfold iY;dsimp only;rw[al i,ao g,ab,k,acs];cases acq e a<;>rfl) (by
  unfold iY;rw[aq,ah]) with ⟨j,f,g,m,_,h⟩|⟨hn,h⟩
 .refine ob h ?_;rw[xT.2 ⟨j,f,g,m⟩];dsimp only;rw[gM,ah,bA ag]
 .refine ob h ?_;rw[py hn];rfl
def YM{l i e}(h:l[i]?=aa e):N9 l (i+1)=e.2.2.1:=by
 unfold N9;rw[aJ ag,Nat.add_sub_cancel,h]
def acv r (m:r.1.length<=1000) (d:r.2.1.length<=1000) :
  (Ks r.1 (acr r)=true/\∃a b,Loop (gg (r,())) (((0:Int),(0:Int),(0:Int),()),r,())=aa (1,(1,a,b,()),r,())) \/
  (Ks r.1 (acr r)=false/\∃a b,Loop (gg (r,())) ((0,0,0,()),r,())=aa (0,(0,a,b,()),r,())):=by
 rcases eL (f:=gg (r,())) r.1 (λi=>((0,N9 r.1 i.toNat,i,()),r,())) (acr r) _ _ ag (λi e g n o=>by
  unfold gg acr;dsimp only;rw[al n,ao g,show inside 0 i _=true from aL ag ag ef,vM,vM,YM g];refine ob (acu _ rfl m) ?_;refine ob (afO _ d) ?_;rw[Wt,o,wB];by_cases k:e.2.2.1<=N9 r.1 i
  .rw[dn k];rfl
  .rw[cm k];cases acp e<;>cases Ks _ _<;>cases Ks r.2.1 _<;>rfl) (by
  unfold gg;rw[aq,ah,vM]) with ⟨j,f,p,d,_,h⟩|⟨hn,h⟩
 .exact .inl ⟨xT.2 ⟨j,f,p,d⟩,_,_,h⟩
 .exact .inr ⟨py hn,_,_,h⟩
def afP a b:sT (a,b,())=aa (decide<|a<b,()):=by
 unfold sT qO;rw[xg];rfl
def upP(l:List Int):Prop:=∀(k:Nat) a b,l[k]?=aa a->l[k+1]?=aa b->a<=b
def Th l (u:l.length<=1000):fT (l,())=aa (@decide (upP l)<|Classical.propDecidable _,()):=by
 unfold fT;dsimp only;rw[dv ef ef];rcases eL (f:=eQ (l,())) (l.drop 1) (λj=>((false,(len l-1)-j,()),())) (λj _=>match l[l.length-1-j]?,l[l.length-2-j]? with|some b,aa a=>decide (b<a)|_,_=>false) (λj _=>(1,(false,(len l-1)-j,()),())) _ cJ (λj x hx t o=>by
  have d:j+1<l.length:=by simp at t;omega
  have g:l[l.length-1-j]?=aa (l[l.length-1-j]'ag):=fX ag;have i:l[l.length-2-j]?=aa (l[l.length-2-j]'ag):=fX ag;unfold eQ;dsimp only;rw[show len l-1-j=((l.length-1-j:Nat):Int) by unfold len;omega,aT ag,ao g,ab,dv ag ag,show _-1=((l.length-2-j:Nat):Int) by omega,ao i,ab,afP,ab,g,i,
   show len l-1-_=((l.length-2-j:Nat):Int) by unfold len;omega]
  by_cases h:l[l.length-1-j]'ag<l[l.length-2-j]'ag<;>simp[ak,h]) (by
  unfold eQ;rw[aC<|by unfold len;simp;omega,ah]) with ⟨j,x,hx,p,_,h⟩|⟨hn,h⟩
 .have d:j+1<l.length:=by have:=av hx;simp at this;omega
  rw[show((false,_),())=((false,len l-1-0,()),()) by rw[adp]];refine ob h ?_;dsimp only;have m:¬upP l:=λn=>by
   have g:l[l.length-1-j]?=aa _:=fX ag;have i:l[l.length-2-j]?=aa _:=fX ag;rw[g,i] at p;have:=n _ _ _ i (by rw[show l.length-2-j+1=l.length-1-j by omega];exact g);have:=fU p;omega
  rw[@decide_eq_false _ (Classical.propDecidable _) m];rfl
 .rw[show((false,_),())=((false,len l-1-0,()),()) by rw[adp]];refine ob h ?_;have n:upP l:=λk a b o q=>by
   have d:=av q;have hd:(l.drop 1)[l.length-2-k]?=aa _:=fX cJ;have:=hn _ _ hd;rw[show l.length-1-_=k+1 by omega,show l.length-2-_=k by omega,o,q] at this;have:=wM this;omega
  rw[@decide_eq_true _ (Classical.propDecidable _) n];rfl
def Wu(l:List Int):(Lib.compact l).length=l.length↔∀k a b,l[k]?=aa a->l[k+1]?=aa b->a≠b:=by
 unfold Lib.compact Lib.compactUpTo;rw[yJ];have i:(List.range l.length).length=l.length:=Re;constructor
 .intro h k a b m j;have d:=av j;have:=(ahV.1<|h.trans i.symm) _ (Lk.2 d);have:=fU this;rcases this with this|this
  .omega
  .have f:l.toArray[k+1]! = b:=by simp[j]
   have g:l.toArray[k+1-1]! = a:=by simp[m]
   rw[f,g] at this;exact λh=>this h.symm
 .intro h;refine(ahV.2 λk n=>?_).trans i;have d:=Lk.1 n;refine dn ?_;cases k with
  | zero=>exact .inl rfl
  | succ k =>
    refine .inr ?_;have f:l.toArray[k+1]! = l[k+1]'(d):=by simp[d]
    have g:l.toArray[k+1-1]! = l[k]'ag:=by simp[show k<l.length by omega]
    rw[f,g];exact λe=>h k _ _ (fX ag) (fX d) e.symm
def afQ l (m:l.length<=1000):sU (l,())=aa (@decide (aai l)<|Classical.propDecidable _,()):=by
 unfold sU kx;dsimp only;rw[Th l m,ab,cY ag];have d:aai l↔upP l/\(Lib.compact l).length=l.length:=by
  rw[Wu];constructor
  .intro h;exact⟨λk a b f g=>by have:=h k a b f g;omega,λk a b f g=>by have:=h k a b f g;omega⟩
  .intro h k a b f g;have n:=h.1 k a b f g;have o:=h.2 k a b f g;omega
 by_cases i:upP l
 .rw[@decide_eq_true _ (Classical.propDecidable _) i,ai,ai,ab,MN];by_cases j:(Lib.compact l).length=l.length
  .rw[dn j,@decide_eq_true _ (Classical.propDecidable _) (d.2 ⟨i,j⟩)]
  .rw[cm j,@decide_eq_false _ (Classical.propDecidable _) λh=>j (d.1 h).2]
 .rw[@decide_eq_false _ (Classical.propDecidable _) i,@decide_eq_false _ (Classical.propDecidable _) λh=>i (d.1 h).1];rfl
def afR(r:s7)(i:r.1.length<=1000)(g:r.2.1.length<=1000):ed (r,())=aa (if Tg r=true then 0 else 1,()):=by
 unfold Tg;rcases acv r i g with ⟨d,a,b,f⟩|⟨d,a,b,f⟩
 .refine ob f ?_;rw[d];rfl
 .refine ob f ?_;rw[d,afQ _ g];cases @decide _ (Classical.propDecidable _)<;>rfl
def Oa{f}{r:s7}(p:r.1.length<=5)(b:∀a,f a=cl (ak (aU a.1.2.1<|len r.1) (ae (idx r.1 a.1.2.1) λd=>aa (aA ((((ak (nt<|aG d.2.1.1 16) ((aw .i64 a.1.1 1,()),()) ((a.1.1,()),())).1).1,aw .i64 a.1.2.1 1,()),())))<|some<|aB (0,(a.1.1,a.1.2.1,()),()))) :
  ∃c j,c<=5/\Loop f ((0,0,()),())=aa ((c,j,()),()):=by
 obtain⟨t,⟨_,q⟩,g,_⟩:=rE (f:=f) r.1 (λs i=>((s,i,()),())) (λs i x=>if x.2.1.1=16 then s else s+1) _ (λs i=>0<=s/\s<=i) ag (λs i x k m n o=>by
  rw[b];dsimp only;rw[al m,ao k,ab,n];by_cases h:x.2.1.1=16
  .rw[au h,aN h];exact⟨rfl,ag⟩
  .rw[ar h,aJ h,eA ag ag];exact⟨rfl,ag⟩) (λs o=>by rw[b,aq];rfl) 0 ⟨ag,aS⟩
 exact⟨t,_,ag,g⟩
def q0(s:aW)(r:s7):QT:=(s,List.replicate r.1.length false,0)
def aiv{s r}(b:r.1.length<=5)(a:r.2.1.length<=10):muQ r (q0 s r)<=15:=by
 unfold muQ q0;simp;omega
def alb{s r}(b:r.1.length<=5)(a:r.2.1.length<=10)(d:jC 40 s):Iv r (60-muQ r (q0 s r)) (q0 s r):=by
 have:=aiv (s:=s) b a;exact(show Iv r 40 _ from⟨d,by simp[q0],by simp[q0]⟩).to ag
section
variable {s:aW} {r:s7} {c:Int} (hn:r.1.length<=5) (hpw:r.2.1.length<=10) (hC:∀e∈r.1,A8 e.2.1) (hs:jC 40 s)
include hn hpw hC hs
def CP{U}(a:PlT->U->Option (Bool×aj))(b:PlT->U->U) fb d w (S:Nat->((s7×PlT×aj)×U)->Option ((Bool×aj)×U)) (g:∀n x,S (n+1) x=HV a b (S n) x) (i:∀q f,Iv r 60 q->a (Ts q f) w=aa (fb q.1,())/\b (Ts q f) w=d f w) :
  S 40 ((r,Ts (q0 s r) [],()),w)=aa (rO d w<|xU r fb 40 (q0 s r) []):=by
 have j:=aiv (s:=s) hn hpw;exact Wq a b fb d w S g hn hpw hC i 40 _ [] (alb hn hpw hs) ag ag cJ
def acw(b:ed (r,())=aa (c,())):fB (s,r,())=aa (if c=0 then((xU r (λ_=>true) 40 (q0 s r) []).isSome,0,()) else(false,c,())):=by
 unfold fB;rw[b,ab];by_cases a:c=0
 case neg=>rw[ar a,aJ a];rfl
 obtain⟨n,j,f,d⟩:=Oa hn (λ_=>rfl);rw[au a,aN a];refine ob d ?_;dsimp only;rw[aC ag,show inside 0 _ _=true from aL ag ef ag,cY ag];exact ob (CP hn hpw hC hs (λ_ _=>aa _) (λ_ w=>w) _ (λ_ w=>w) () bT (λ_ _=>rfl) λ_ _ _=>⟨rfl,rfl⟩) rfl
def acx(b:ed (r,())=aa (c,())):ja (s,r,())=aa (if c=0 then(match xU r (λ_=>true) 40 (q0 s r) [] with|some o=>(o,0,())|none=>([],3,())) else([],c,())):=by
 unfold ja;rw[b,ab];by_cases a:c=0
 case neg=>rw[ar a,aJ a];rfl
 obtain⟨n,j,f,d⟩:=Oa hn (λ_=>rfl);rw[au a,aN a];refine ob d ?_;dsimp only;rw[aC ag,show inside 0 _ _=true from aL ag ef ag,cY ag];refine ob (CP hn hpw hC hs (λ_ _=>aa _) (λp _=>(p.2.2.2.1,())) (λ_=>true) (λo _=>(o,())) _ bS (λ_ _=>rfl) λ_ _ _=>⟨rfl,rfl⟩) ?_;cases xU r _ 40 _ []<;>rfl
def afS(t:aW)(b:ed (r,())=aa (c,())):qb (s,r,t,())=aa (if c=0 then((xU r (λs=>Fi s t) 40 (q0 s r) []).isSome,0,()) else(false,c,())):=by
 unfold qb;rw[b,ab];by_cases a:c=0
 case neg=>rw[ar a,aJ a];rfl
 obtain⟨n,j,g,d⟩:=Oa hn (λ_=>rfl);rw[au a,aN a];refine ob d ?_;dsimp only;rw[aC ag,show inside 0 _ _=true from aL ag ef ag,cY ag];exact ob (CP (U:=aW×aj) hn hpw hC hs (λp w=>sV (p.1,w.1,())) (λ_ w=>w) (λs=>Fi s t) (λ_ w=>w) (t,()) cA (λ_ _=>rfl) λq _ f=>⟨show sV _=aa _ from YL (f.st.slf<|bX _) t,rfl⟩) rfl
end
def smB(c:jh):Bool:=match nd (c,()) with|some (b,_)=>b|none=>false
def aaj(c:jh):nd (c,())=aa (smB c,())/\(smB c=true->A8 c):=by
 obtain⟨b,a,h⟩:=Wi c;unfold smB;rw[a];exact⟨rfl,h⟩
def He(l:List jh):Nat->aW
 | 0=>zS
 | i+1=>match l[i]? with|some c=>(doA (He l i) c).1|none=>He l i
def BJ(l:List jh)(i:Nat):nR:=match l[i]? with|some c=>(doA (He l i) c).2.1|none=>afN
def Wv(c:jh)(i:Nat)(a:nR):Hc:=(1,c,2*(i:Int)+1,2*(i:Int)+2,1,a,())
structure Row (l:List jh) (vy:Nat->nR) (r:s7):Prop where
 len:r.1.length=l.length
 ev:∀i e,r.1[i]?=aa e->∃c,l[i]?=aa c/\e=Wv c i (vy i)
 pw:r.2.1=[]
def aiw{l}(a:∀c∈l,A8 c):∀i,jC (40+i) (He l i)
 | 0=>by constructor<;>simp[He,zS]
 | i+1=>by
   have b:=aiw a i;unfold He;cases d:l[i]? with
   | none=>exact b.to ag
   | some c=>exact Wn b (a c<|dW d)
def uN(n i:Nat):List Bool:=(List.range n).map λj=>decide (j<i)
def CQ{n i j}(h:j<n):(uN n i)[j]?=aa (decide<|j<i):=by
 unfold uN;rw[Em,JI h];rfl
def IG{n i}:(uN n i).length=n:=by simp[uN]
def afT{n i}(h:i<n):(uN n i).set i true=uN n (i+1):=by
 refine DE λj=>?_;rcases rR j n with a|a
 .rw[CQ a];by_cases e:i=j
  .subst e;rw[acU<|by rw[IG];exact h,dn ag]
  .rw[YY e,CQ a];by_cases b:j<i
   .rw[dn b,dn ag]
   .rw[cm b,cm ag]
 .rw[yH<|by rw[Y7,IG];omega,yH (by rw[IG];omega)]
section
variable {l:List jh} {vy:Nat->nR} {r:s7} (h:Row l vy r)
include h
def Row.get{i}(f:i<l.length):∃c,l[i]?=aa c/\r.1[i]?=aa (Wv c i<|vy i):=by
 have:=h.len;have a:r.1[i]?=aa r.1[i]:=fX ag;obtain⟨c,b,d⟩:=h.ev i _ a;exact⟨c,b,by rw[a,d]⟩
def afU{i:Nat}{a}(j e)(b:r.1[j]?=aa e)(f:a<=2*(i:Int))(g:i<=l.length):Bw (uN l.length i) a j e=false:=by
 obtain⟨c,d,rfl⟩:=h.ev j e b;unfold Bw;rw[CQ<|av d];by_cases q:j<i
 .rw[dn q];simp
 .have:¬(2*j+2<a):=ag;simp[Wv,this]
def row_step{i}(b:i<l.length)(Hb:∀c∈l,c.1≠16) :
  lI r (He l i,uN l.length i,0) i=if vy i=BJ l i then aa (He l<|i+1,uN l.length (i+1),0) else none:=by
 obtain⟨c,f,g⟩:=h.get b;unfold lI;rw[ vM,g];dsimp only;have m:N8 r (uN l.length i) 0 i (Wv c i<|vy i)=true:=by
  unfold N8 N7 Wo;rw[CQ b,h.pw,afT b,py λj e a=>afU h j e a (by show 2*_+1<=_;omega) ag];simp
 have n:Bx r.1 ((uN l.length i).set i true) (Wv c i<|vy i)=uN l.length (i+1):=by
  rw[afT b];refine DE λj=>?_;have o:=h.len;rcases rR j l.length with a|a
  .obtain⟨d,x,p⟩:=h.get a;rw[Wp p<|CQ a,CQ a];unfold YI Wv;by_cases q:j<i+1
   .rw[dn q];simp
   .have:¬(2*(j:Int)+2<2*i+1):=ag;simp[this]
  .rw[yH<|by rw[IF<|by rw[IG,o]];omega,yH (by rw[IG];omega)]
 have t:He l (i+1)=(doA (He l i) c).1:=by show(match l[i]? with|some c=>_|none=>_)=_;rw[f]
 have u:BJ l i=(doA (He l i) c).2.1:=by unfold BJ;rw[f]
 have v:Te (He l i) c=(He l<|i+1,BJ l i):=by
  unfold Te;rw[aJ<|Hb c<|dW f,t,u]
 rw[n];show(if N8 r _ 0 i _=true/\((1:Int)=1->(Te _ c).2=vy i) then aa ((Te _ c).1,_,0) else af)=_
 rw[v];by_cases q:vy i=BJ l i
 .rw[aN q,aN ⟨m,λ_=>q.symm⟩]
 .rw[aJ q,aJ λk=>q (k.2 rfl).symm]
def acy{i k}(b:i<l.length)(f:k≠i):lI r (He l i,uN l.length i,0) k=none:=by
 unfold lI;rw[aJ ag,aN ag,vM];cases g:r.1[k]? with
 | none=>rfl
 | some e =>
   obtain⟨c,j,rfl⟩:=h.ev k e g;refine aJ λq=>?_;have:=q.1;unfold N8 at this;rw[CQ<|av j] at this;by_cases a:k<i
   .rw[dn a] at this;simp at this
   .obtain⟨d,o,m⟩:=h.get b;have n:Ks r.1 (Bw ((uN l.length i).set k true) (Wv c k<|vy k).2.2.1)=true:=xT.2 ⟨i,_,m,by
     unfold Bw;rw[YY f,CQ b];have:2*(i:Int)+2<2*k+1:=ag;simp[Wv,this]⟩
    rw[n] at this;simp at this
def afV{q}:lI r (q,uN l.length 0,0) (-1)=af/\∀u,lI r (q,u,0) (-1)=none:=by
 have:∀u,lI r (q,u,0) (-1)=none:=λu=>by
  unfold lI;unfold N6;rw[h.pw];simp
 exact⟨this _,this⟩
def Ww{i}(g:i<=l.length):Q4 r (uN l.length i) 0=decide (i<l.length):=by
 unfold Q4;rw[h.pw];by_cases q:i<l.length
 .obtain⟨c,b,d⟩:=h.get q;rw[xT.2 ⟨i,_,d,by rw[CQ q];simp[Wv]⟩,dn q];rfl
 .rw[py λj e f=>by
   obtain⟨c,b,rfl⟩:=h.ev j e f;have a:=av b;rw[CQ a,dn ag];rfl,cm q]
  rfl
end
def acz{d:Type}{f:Nat->Option d}{n i}(g:i<n)(h:∀k,k≠i->f k=af):(List.range' 0 n).findSome? f=f i:=by
 cases a:(List.range' 0 n).findSome? f with
 | none=>exact((List.findSome?_eq_none_iff.1 a) i<|by simp[g]).symm
 | some b =>
   obtain⟨k,_,e⟩:=List.exists_of_findSome?_eq_some a;by_cases q:k=i
   .subst q;exact e.symm
   .rw[h k q] at e;cases e
section
variable {l:List jh} {vy:Nat->nR} {r:s7} (h:Row l vy r) (Hb:∀c∈l,c.1≠16) (fb:aW->Bool)
include h Hb
def YN{N i b}(a:i<l.length):xU r fb (N+1) (He l i,uN l.length i,0) b=if vy i=BJ l i then xU r fb N (He l<|i+1,uN l.length (i+1),0) (b++[(i:Int)]) else none:=by
 have f:=h.len
 conv=>lhs;unfold xU
 rw[Ww h ag,dn a,(afV h).2];rw[acz (i:=i) ag<|λk d=>by rw[acy h a d];rfl,row_step h a Hb];by_cases q:vy i=BJ l i
 .rw[aN q,aN q];rfl
 .rw[aJ q,aJ q];rfl
def IH(b:∀i,i<l.length->vy i=BJ l i)(d:fb (He l l.length)=true):∀m i N a,i+m=l.length->m<N->xU r fb N (He l i,uN l.length i,0) a=aa (a++(List.range' i m).map λ(k:Nat)=>(k:Int))
 | 0,i,N+1,a,f,_=>by
   obtain rfl:i=l.length:=f;unfold xU;rw[Ww h<|bX _,d];simp
 | m+1,i,N+1,a,f,g=>by
   rw[YN h Hb fb ag,aN (b i ag),IH b d m _ N _ ag ag,vL];rfl
def Q6{k}(b:k<l.length)(d:vy k≠BJ l k):∀m i N a,i+m=k->m<N->xU r fb N (He l i,uN l.length i,0) a=af
 | 0,i,N+1,a,f,_=>by
   obtain rfl:i=k:=f;rw[YN h Hb fb b,aJ d]
 | m+1,i,N+1,a,f,g=>by
   rw[YN h Hb fb ag];split
   .exact Q6 b d m _ N _ ag ag
   .rfl
end
def acA{l vy r}(h:Row l vy r):Tg r=true:=by
 unfold Tg;have n:aai ([]):=λk a b m B=>by cases m
 rw[h.pw,@decide_eq_true _ (Classical.propDecidable _) n,py λi e o=>?_]
 .rfl
 obtain⟨c,p,rfl⟩:=h.ev i e o;have t:=av p;unfold acr;have C:N9 r.1 i<2*i+1:=by
  unfold N9;by_cases q:i=0
  .omega
  .rw[aJ q];obtain⟨d,u,v⟩:=h.get (i:=i-1) ag;rw[v];show 2*_+1<_
   omega
 have x:Ks (r.1.take i) (λ_ f=>Q5 (Wv c i<|vy i) f)=false:=py λj f y=>by
  have g:=jq ..▸y;split at g
  .rename_i z;obtain⟨d,u,rfl⟩:=h.ev j f g;unfold Q5 Wv;have:¬(2*(i:Int)+1<=2*j+2):=ag;simp[this]
  .cases g
 rw[x,h.pw,py λj a m=>by cases m];have A:acp (Wv c i<|vy i)=true:=by
  unfold acp Wv;simp
 rw[A,cm (by show ¬(2*_+1<=_);omega)];rfl
def afW(l:List jh):∃b,Ch (l,5,())=aa (b,())/\(b=true->l.length<=5/\∀c∈l,A8 c):=by
 rcases XY (f:=sH (l,5,())) l 5 (λi=>((false,i,()),())) (λ_ c=>! smB c) _ (λn=>_) ag (λi c d a hn g=>by
  unfold sH;dsimp only;rw[al a,aT ag,ao d,ab,(aaj c).1,g];cases smB c<;>rfl) (by
  unfold sH;rw[ZH (c:=5) rfl,ah]) with ⟨i,c,a,d,j,_,h⟩|⟨hn,h⟩
 .exact⟨false,ob h rfl,λq=>by cases q⟩
 .refine⟨decide<|l.length<=5,ob h ?_,λq=>?_⟩
  .dsimp only;rw[cV,ai,yx (c:=5) rfl]
  .have q:=fU q;refine⟨q,λc d=>?_⟩;obtain⟨i,a⟩:=bq.1 d;exact(aaj c).2 (by simpa using(hn i c (by have:=av a;omega) a))
def ajA{l:List jh}(m:l.length<=5)(d:∀c∈l,A8 c):Ci (zS,l,())=aa (He l l.length,(List.range l.length).map<|BJ l,()):=by
 refine ob (cB (f:=sR _) l.length (λi=>(((),i,()),(List.range i).map<|BJ l,He l i,())) (λi g=>?_) (r:=(((),l.length,()),(List.range l.length).map _,He l l.length,())) ?_) rfl
 .have b:=fX g;unfold sR;rw[al g,ao b,ab,YH ((aiw d i).to ag).a (d _<|dW b),ab,aH cJ,az ag,adb,TN];have j:He l (i+1)=(doA (He l i) l[i]).1:=by show(match l[i]? with|some c=>_|none=>_)=_;rw[b]
  have k:BJ l i=(doA (He l i) l[i]).2.1:=by unfold BJ;rw[b]
  rw[List.map_singleton,j,k];rfl
 .unfold sR;rw[aq];rfl
def vz(l:List jh)(a:Nat->nR):List Hc:=l.zipIdx.map λp=>Wv p.1 p.2 (a p.2)
def Lb{l vy}{i:Nat}:(vz l vy)[i]?=l[i]?.map λc=>Wv c i (vy i):=by
 unfold vz;rw[Em,List.getElem?_zipIdx];cases l[i]?<;>simp
def xV{l vy}:(vz l vy).length=l.length:=by simp[vz]
def Ab l vy:Row l vy (vz l vy,[],()):=⟨xV,λi e h=>by
 dsimp only at h;rw[Lb] at h;cases a:l[i]? with
 | none=>rw[a] at h;cases h
 | some c=>rw[a] at h;exact⟨c,rfl,(aF h).symm⟩,rfl⟩
def acB{l:List jh}{vy}{i:Nat}{c}(h:l[i]?=aa c):vz (l.take<|i+1) vy=vz (l.take i) vy++[Wv c i<|vy i]:=by
 have a:=av h;unfold vz;rw[wN,h,List.zipIdx_append,TN,dk,wO ag,BD];rfl
def acC(i:Nat):(List.range<|i+1).map (λ(k:Nat)=>(k:Int))=(List.range i).map (λ(k:Nat)=>(k:Int))++[(i:Int)]:=by
 rw[adb,TN];rfl
def ahL(n:Int):fN .i64 n 1≠n:=λh=>by
 have a:(BitVec.ofInt 64 n ^^^ BitVec.ofInt 64 1).toNat % 2=((BitVec.ofInt 64 n).toNat+1) % 2:=by
  rw[BitVec.toNat_xor];have:=@Nat.xor_mod_two_eq_one (BitVec.ofInt 64 n).toNat (BitVec.ofInt 64 1).toNat;rw[show(BitVec.ofInt 64 1).toNat=1 from rfl] at this⊢;omega
 have b:((BitVec.ofInt 64 n).toNat:Int)=n % 18446744073709551616:=by
  rw[Y4];omega
 unfold fN at h;rw[show(IntKind.i64).bits=64 from rfl] at h;generalize (BitVec.ofInt 64 n ^^^ BitVec.ofInt 64 1).toNat=m at h a;simp[IntKind.wrap,IntKind.signed,IntKind.bits] at h;omega
def acD(l:List Int)(d:l.length<=1000):iD (l,l,())=aa (true,()):=by
 unfold iD;rw[xg,ab1 l ag (λi x a f b=>by
  unfold pJ;rw[al b,ao a];simp only[xg,ai,ah,aV,aI,ab]) (by unfold pJ;rw[aq];rfl)]
 rfl
def ahM(n:Nat):uN n 0=List.replicate n false:=by
 refine DE λj=>?_;rcases rR j n with h|h
 .rw[CQ h,acT,aN h];rfl
 .rw[yH<|by rw[IG];exact h,yH (by simpa using h)]
def Ob{l:List jh}{w:Int}{s:aW}(m:l.length<=5){n:Nat}(o:n<=l.length)(d:∀j c,j<n->l[j]?=aa c->c.1≠16){R}
  (a:eu (l,w,()) (s,(List.range l.length).map<|BJ l,()) ((false,(),(n:Int),()),(List.range n).map<|λ(k:Nat)=>(k:Int),((),[],()),vz (l.take n)<|BJ l,())=aa (.inr R)) :
  Loop (eu (l,w,()) (s,(List.range l.length).map<|BJ l,())) ((false,(),0,()),[],((),[],()),[],())=aa R:=by
 refine cB n (λi=>((false,(),(i:Int),()),(List.range i).map<|λ(k:Nat)=>(k:Int),((),[],()),vz (l.take i)<|BJ l,())) (λi f=>?_) a;have b:l[i]?=aa l[i]:=fX ag;generalize l[i]=c at b;have g:((List.range l.length).map<|BJ l)[i]?=aa (BJ l i):=by rw[Em,JI ag];rfl
 have p:(vz (l.take i)<|BJ l).length<=5:=by rw[xV,dk];omega
 unfold eu;dsimp only;rw[al ag,al cJ,ai,ai,ao b,ab,ar (d i c f b),ah,ab,ao g,ab,aH cJ,ai,aH cJ,ai,
  zI ag ag,az (i:=i) ag,eA ag ag,eA ag ag,acC,acB b]
 rfl
def Kt(l:List jh)(w:Int)(I:0<=w)(J:w<=255):hL (l,w,())=aa (true,()):=by
 unfold hL;obtain⟨b,e,K⟩:=afW l;refine ob e ?_;cases b with
 | false=>rfl
 | true =>
 obtain⟨p,C⟩:=K rfl;refine(show ak false _ _=_ from ?_);rw[ah];refine ob (ajA p C) ?_;dsimp only;rcases MR l (λ_ c=>decide (c.1=16)) with ⟨i,c,t,L,M⟩|u
 .have hi:=av t;refine ob (Ob p (n:=i) ag (λj v y f h=>by have:=M j v y f;simp[h] at this) (R:=(1,(true,(),(i:Int),()),(List.range i).map<|λ(k:Nat)=>(k:Int),((),[],()),vz (l.take i)<|BJ l,())) ?_) rfl;unfold eu;dsimp only;rw[al hi,al cJ,ai,ai,ao t,ab,au (fU L)];rfl
 have Hb:∀c∈l,c.1≠16:=λc t=>by
  obtain⟨i,hi⟩:=bq.1 t;have:=u i c hi;exact wM this
 refine ob (Ob p (n:=l.length) (bX _) (λj v _ f=>Hb v (dW f)) (R:=(0,(false,(),(l.length:Int),()),(List.range l.length).map<|λ(k:Nat)=>(k:Int),((),[],()),vz l<|BJ l,())) ?_) ?_
 .unfold eu;dsimp only;rw[aq,yI];rfl
 refine(show ak true _ _=_ from ?_);rw[ai];have hs:jC 40 zS:=by constructor<;>simp[zS]
 have hC:∀{vy},∀e∈vz l vy,A8 e.2.1:=λe N=>by
  obtain⟨i,hi⟩:=bq.1 N;obtain⟨c,z,rfl⟩:=(Ab l _).ev i e hi;exact C c (dW z)
 have A:∀vy,ed ((vz l vy,[],()),())=aa (0,()):=λvy=>by
  have:=afR (vz l vy,[],()) (by dsimp only;rw[xV];omega) aS;rw[acA<|Ab l vy] at this;exact this
 have B:∀vy,q0 zS (vz l vy,[],())=(He l 0,uN l.length 0,0):=λvy=>by
  unfold q0;rw[ahM];dsimp only;rw[xV];rfl
 have hlen:∀{vy},(vz l vy).length<=5:=λ{vy}=>by rw[xV];exact p
 have D:=acx (r:=(vz l<|BJ l,[],())) hlen aS hC hs (A _);rw[aN rfl,B,IH (Ab l _) Hb (λ_=>true) (λ_ _=>rfl) rfl l.length 0 40 [] ag ag,JJ,<-List.range_eq_range'] at D;have E:=afS (r:=(vz l<|BJ l,[],())) hlen aS hC hs (He l l.length) (A _);rw[aN rfl,B,IH (Ab l _) Hb (λs=>Fi s (He l l.length)) (λ_ _=>rfl) (Aa.2 rfl) l.length 0 40 [] ag ag] at E;refine ob D (ob E<|ob (x:=false) (ob (acD _ cJ) rfl) ?_);dsimp only;rw[ah];by_cases P:l.length=0
 .rw[au<|show len l=0 by unfold len;omega];rfl
 rw[ar<|show len l≠0 by unfold len;omega,ah,ah];obtain⟨m,rfl⟩:=YT I;have O:eU (ju .i64 m) (len l)=((m % l.length:Nat):Int):=by rw[uI ag ag];exact sX m l.length
 have d:m % l.length<l.length:=BE _ ag;rw[O];generalize m % l.length=k at d;obtain⟨c,z,F⟩:=(Ab l<|BJ l).get d;dsimp only at F;rw[aE ag<|by unfold len;rw[xV];omega,ai,ao F,ab,ai,ab,ab,ab,zJ];generalize G:(λi=>if i=k then((BJ l k).1,(BJ l k).2.1,fN .i64 (BJ l k).2.2.1 1,(BJ l k).2.2.2) else BJ l i:Nat->nR)=vy;have g:vy k=((BJ l k).1,(BJ l k).2.1,fN .i64 (BJ l k).2.2.1 1,(BJ l k).2.2.2):=by rw[<-G];exact aN rfl
 have o:(vz l<|BJ l).set k (Wv c k<|vy k)=vz l vy:=by
  refine DE λj=>?_;by_cases q:k=j
  .subst q;rw[acU<|by rw[xV];exact d,Lb,z];rfl
  .rw[YY q,Lb,Lb,<-G];dsimp only;rw[aJ<|IM q]
 have H:=acw (r:=(vz l vy,[],())) hlen aS hC hs (A _);rw[aN rfl,B,Q6 (Ab l _) Hb (λ_=>true) d (by
  rw[g];exact λh=>ahL _ (congrArg (λa:nR=>a.2.2.1) h)) k 0 40 [] ag ag] at H
 rw[show(vz l<|BJ l).set k _=vz l vy from by rw[<-o,g];rfl];exact ob H rfl
end Go.Ge
namespace Go.Ge.W24
variable [Lp]
set_option maxRecDepth 100000
def cF:jh:=(14,3,[97],[],[],[],[],0,())
def cL:jh:=(1,0,[],[],[[97]],[],[],1,())
def evF(b n:Int):Hc:=(1,cF,b,n,1,okW w1,())
def evL(b n:Int):Hc:=(2,cL,b,n,1,okW w1,())
def r0:s7:=([evF 1 4,evL 2 3],[],())
def r1:s7:=([evF 1 5,evL 6 7],[],())
def tA(D N:Tx):aW:=([],[],[(w1,[],[[97]],D,1024,0,true,())],[N],[],())
def a0:A24 t0:=jC.a (by constructor<;>simp[t0])
def ab0:A8 cL:=⟨⟨aD,λx a=>by obtain rfl:=DD.1 a;decide⟩,aD,aD⟩
def doL:xq (t0,cL,())=aa (tA (SJ<|WI 1024)<|WI 1024,okW w1,()):=by
 rw[afB a0 ab0];show aa (crS t0 [] [[97]] [] 1)=_
 rfl
def amT D N:bT 39 ((r0,(tA D N,[false,true],0,[1],()),()),())=aa ((true,()),()):=by
 obtain rfl:‹Lp›=Lp.JL:=Lp.one _ _;kernel_rfl
def amU D N:bS 39 ((r0,(tA D N,[false,true],0,[1],()),()),[],())=aa ((true,()),[1,0],()):=by
 obtain rfl:‹Lp›=Lp.JL:=Lp.one _ _;kernel_rfl
def ald:fB (t0,r1,())=aa (false,0,()):=by
 obtain rfl:‹Lp›=Lp.JL:=Lp.one _ _;kernel_rfl
def aix:ed (r0,())=aa (0,()):=by
 obtain rfl:‹Lp›=Lp.JL:=Lp.one _ _;kernel_rfl
abbrev plT:aW×List Bool×Int×List Int×aj:=(tA (SJ<|WI 1024)<|WI 1024,[false,true],0,[1],())
abbrev stA:s7×PlT×aj:=(r0,(t0,[false,false],0,[],()),())
section
variable {U:Type} (REC:((s7×PlT×aj)×U)->Option ((Bool×aj)×U)) (w w':U)
def ale:Gu REC (stA,w) ((false,0,()),w)=aa (.inl ((false,1,()),w)):=by
 obtain rfl:‹Lp›=Lp.JL:=Lp.one _ _;kernel_rfl
def step1(h:REC ((r0,plT,()),w)=aa ((true,()),w')):Gu REC (stA,w) ((false,1,()),w)=aa (.inr (1,(true,1,()),w')):=by
 show ak (aU 1<|len r0.1) (ae (Sx r0.1 r0.2.1 (t0,[false,false],0,[],()) 1 w) _) _=_
 rw[show aU 1 (len r0.1)=true from rfl,ai];refine ob (x:=((plT,true,()),w)) ?_ (ob h rfl);refine ob rfl (ob rfl (ob rfl (ob rfl ?_)));refine(show ak false _ (ak true (ak true (ak true (ak true _ _) _) _) _)=_ from ?_);rw[ah,ai,ai,ai,ai];refine ob rfl (ob rfl (ob rfl (ob (x:=((false,()),w)) ?_ ?_)))
 .obtain rfl:‹Lp›=Lp.JL:=Lp.one _ _;kernel_rfl
 refine ob doL ?_;obtain rfl:‹Lp›=Lp.JL:=Lp.one _ _;kernel_rfl
def root a b (h:REC ((r0,plT,()),w)=aa ((true,()),w')):HV a b REC (stA,w)=aa ((true,()),w'):=by
 refine ob (x:=((true,()),w)) ?_ ?_
 .obtain rfl:‹Lp›=Lp.JL:=Lp.one _ _;kernel_rfl
 refine(show ak false _ (MK REC (stA,w) w)=_ from ?_);rw[ah];refine ob (x:=_) rfl ?_;refine ob (x:=(1,(true,1,()),w')) ?_ rfl;rw[aO,ale];show Loop _ _=_
 rw[aO,step1 REC w w' h];rfl
end
def alf:fB (t0,r0,())=aa (true,0,()):=by
 refine ob aix ?_;refine ob (x:=((2,2,()),())) ?_ ?_
 .obtain rfl:‹Lp›=Lp.JL:=Lp.one _ _;kernel_rfl
 exact ob (show fA (stA,())=aa ((true,()),()) from root (bT 39) () () (λ_ _=>aa (true,())) (λ_ w=>w) (amT _ _)) rfl
def alg:ja (t0,r0,())=aa ([1,0],0,()):=by
 refine ob aix ?_;refine ob (x:=((2,2,()),())) ?_ ?_
 .obtain rfl:‹Lp›=Lp.JL:=Lp.one _ _;kernel_rfl
 exact ob (show fy (stA,[],())=aa ((true,()),[1,0],()) from root (bS 39) ([],()) ([1,0],()) (λ_ _=>aa (true,())) (λp _=>(p.2.2.2.1,())) (amU _ _)) rfl
end Go.Ge.W24
