import Derived.Test.YtcebnmppipejfaaGreatDoorGeJ
import Derived.Deep.RegionLaw
import Derived.Shelf.RegionOpenPlain
set_option linter.unusedSectionVars false
set_option linter.unusedVariables false
set_option linter.unusedSimpArgs false
namespace Go.Ge
variable [Lp]
open RowKit Go.Shelf Go.Lib Go.Proofs
theorem cm{a b:List Value}{o:Nat}(h:o+b.length<=a.length)(j:Nat):(aQ a o b)[j]?=if j<o then a[j]? else if j<o+b.length then b[j-o]? else a[j]?:=by
 unfold aQ;rw[oC,Sz];have e:(a.take o).length=o:=by rw[gM];omega
 rw[e];by_cases c:j<o
 .rw[bd c,bd c,gm,bd c]
 .rw[bb c,bb c,Sz];by_cases d:j<o+b.length
  .rw[bd<|by omega,bd d]
  .rw[bb<|by omega,bb d,l9]
   congr 1;omega
theorem xB{L L':List Value}{p p' s:Nat}(h:∀j,j<s->L[p+j]?=L'[p'+j]?):(L.drop p).take s=(L'.drop p').take s:=by
 apply Nk;intro j;rw[gm,gm];by_cases a:j<s
 .rw[bd a,bd a,l9,l9];exact h j a
 .rw[bb a,bb a]
theorem PC{w:World}{I:Nat->Nat->Prop}{e:Ty}{l f:List e.den}{cur vs F:List Value}{i n m:Nat}(g:l.length=n)(h:f.length=m)(D:i<=n)(A:∀(q:Nat) (x:e.den),l[q]?=some x->bB w I e x ((cur.drop<|q*e.size).take e.size))(C:eQ w I e f vs)
  (o:∀j,j<i*e.size->F[j]?=cur[j]?) (p:∀j,j<m*e.size->F[i*e.size+j]?=vs[j]?) (s:∀j,j<(n-i)*e.size->F[(i+m)*e.size+j]?=cur[i*e.size+j]?) :
  ∀(q:Nat) (x:e.den),(l.take i++f++l.drop i)[q]?=some x->bB w I e x ((F.drop<|q*e.size).take e.size):=by
 intro q x c;have t:(l.take i).length=i:=by rw[gM];omega
 have step:∀{a b:Nat},a<b->∀j,j<e.size->a*e.size+j<b*e.size:=λ{a b} v j d=>by
  have:(a+1)*e.size<=b*e.size:=fN _ v;rw[gn,Nat.one_mul] at this;omega
 rw[oC,Sz,t] at c;split at c
 .rename_i y;rw[gm,bd y] at c;rw[xB (L':=cur) (p':=q*e.size) λj d=>o _ (step y j d)];exact A q x c
 .rename_i y;obtain⟨r,rfl⟩:∃r,q=i+r:=⟨q-i,by omega⟩;rw[show i+r-i=r by omega,Sz,h] at c;split at c
  .rename_i B;rw[xB (L':=vs) (p':=r*e.size) λj d=>by
    rw[gn,x8];exact p _ (step B j d)]
   exact C r x c
  .rename_i B;obtain⟨u,rfl⟩:∃u,r=m+u:=⟨r-m,by omega⟩;rw[show m+u-m=u by omega,l9] at c;have E:i+u<n:=by rw[<-g];exact(ix.1 c).1
   rw[xB (L':=cur) (p':=(i+u)*e.size) λj d=>by
    have:=s (u*e.size+j) (step (show u<n-i by omega) j d);rw[show(i+(m+u))*e.size+j=(i+m)*e.size+(u*e.size+j) by rw[<-x8 i m u,gn (i+m) u,x8],this]
    congr 1;rw[gn];omega]
   exact A (i+u) x c
theorem IX{P:Program}(w:World)(d A e:TypeId)(u:P.underlying d=some (.slice e))(c:Nat)(v:∀w,(Go.sizeOf e).run P w=.ok c w)
  (a b:Addr) (j B l C:Nat) (f:a.block≠b.block) (D E:TypeId) (g x:Nat)
  (m:w.shape? a.block=some (D,g)) (n:w.shape? b.block=some (E,x)) (o:g≠0)
  (p:w.frozen? b=false) (q:w.frozen? { block:=b.block,off:=x }=false) :
  (Extern.SlicesOverlaps.overlaps #[d,d] #[A] #[.slice (some a) j B,.slice (some b) l C]).run P w=.ok (.bool false) w:=by
 have r:(a.block != b.block)=true:=by simpa using f
 have h:(a.block==b.block)=false:=by simpa using f
 change Sem.run P (α:=Value) (do
  let some t:=(#[d,d]:Array TypeId)[0]?|stuck "slices.overlaps: no parameter types"
  let .slice elem <-underlying t|stuck "slices.overlaps: slice type expected"
  let c <-sizeOf elem
  match(some a:Option Addr),(some b:Option Addr) with
  | some a,some b =>
    if j=0\/l=0\/c=0 then pure (Value.bool false)
    else if a.block != b.block&&(<-frozen a)&&(<-frozen b) then unsupported .addressObserved
    else do
     if a.block != b.block then do
      noView a;noView b
      if <-mayBeOne a b then return Value.bool ((<-choose (.extern "sameAddr.stringBytes" 2))==1)
     pure (Value.bool<|a.block==b.block&&a.off<b.off+l*c&&b.off<a.off+j*c)
  | _,_=>pure (Value.bool false)) w=_
 by_cases y:j=0\/l=0\/c=0
 .simp[run_underlying u,v,y]
 .cases g with
  | zero=>exact absurd rfl o
  | succ g =>
    cases s:w.frozen? a<;>cases i:w.frozen? { block:=a.block,off:=g+1 } <;>
     simp[run_underlying u,v,y,r,h,frozen,noView,viewAt,mayBeOne,stringish,shape,Sem.run,m,n,s,i,p,q]
def Dg{α:Type}(l:List α)(i:Int)(m:List α):Option (List α):=bif inside 0 i (len l)&&fits (plus (len l)<|len m) then some (l.take i.toNat++m++l.drop i.toNat) else none
variable {P:Program} {ρ:Ren} {nm:String}
theorem PD{w:World}{b o:Nat}{cur:Array Value}{c:TypeId}{a:Nat×Nat}(d:w.heap[b]?=some (.cells cur c a))(h:¬(a.1<=o/\o<a.2)):w.frozen? ⟨b,o,none⟩=false:=by
 obtain⟨e,f⟩:=a;simp only[World.frozen?,d];simp only[not_and,Nat.not_lt] at h;simp;exact h
theorem vx{e:Ty}(L:TW P ρ nm e.size)(hnm:(nm == "runtime.NumGoroutine")=false)(he:Den P e (ρ.t 9))(hby:F3 P (ρ.t 9)=true)(V:0<e.size)(hint:e.isInt=false) :
  eF P (ρ.f 22) (.own e (.pair (.int .i64)<|.pair (.slice e) .unit) true λl x=>Dg (α:=e.den) l x.1 x.2.1):=by
 refine⟨⟨_,_,L.f22,hnm,rfl⟩,λI w args v rest l l' L0 x hI ahL H ab6 s=>?_⟩;obtain⟨xi,g,xu⟩:=x;change Int at xi;change List e.den at g;obtain⟨cs1,r1,rfl,W,cs2,r2,rfl,hc2,rfl⟩:=ab6;obtain⟨W,aht,abX⟩:=W;subst W;change Dg (α:=e.den) l xi g=some l' at s;have hsp:(inside 0 xi (len l)&&fits (plus (len l)<|len g))=true/\l'=l.take xi.toNat++g++l.drop xi.toNat:=by
  unfold Dg at s;cases Q:(inside 0 xi (len l)&&fits (plus (len l)<|len g)) with
  | true=>rw[Q] at s;exact⟨rfl,(aE s).symm⟩
  | false=>rw[Q] at s;cases s
 obtain⟨M,rfl⟩:=hsp;simp only[dF] at M;obtain⟨_,hx0,hxl⟩:=iS M.1;have X:l.length+g.length<=4294967296:=by
  have:fits (((l.length+g.length:Nat)):Int)=true:=by rw[<-M.2];simp[plus,len]
  exact Eu this
 obtain⟨i,rfl⟩:∃i:Nat,xi=i:=⟨xi.toNat,by omega⟩;have hil:i<=l.length:=by simp only[len] at hxl;omega
 rw[rK];obtain⟨v2,rfl⟩:∃v2,cs2=[v2]:=by
  rcases hc2 with ⟨⟨y,q⟩,_⟩|⟨_,_,_,q,_⟩<;>exact⟨_,q⟩
 have agl:args=#[v,.int .i64 i,v2]:=by apply CQ.1;rw[ahL];rfl
 subst agl;obtain⟨ie,ze,e1,e2,e3,e4⟩:=he.info;have hbs:=Ab hby e1;have hzc:ze.cells.size=e.size:=by rw[<-dS e,<-e4];simp
 have R:∀{w':World},w'=w->∃U,kH w I (λk=>∃c,L0=some (k,c)) w' U/\U=I:=λ{w'} N=>⟨I,by subst N;exact kH.mk' rfl rfl rfl (cD _) (λ_ _ _=>rfl) hI,rfl⟩;rcases hc2 with ⟨⟨Y,q2⟩,J⟩|⟨T,r,vc,q2,hvc,hvm,hvx⟩
 ·
  obtain rfl:v2=.slice Y 0 0:=by simpa using q2
  have J:g=[]:=J;subst J;have C:l.take i++([]:List e.den)++l.drop i=l:=by simp
  obtain⟨y,n,c,hv,hnl,hnc⟩:∃y n c,v=.slice y n c/\n=l.length/\n<=c:=by
   rcases H with ⟨_,rfl,rfl⟩|⟨blk,a,cur,tid,fr,_,rfl,_,_,q5,_⟩
   .exact⟨none,0,0,rfl,rfl,cD _⟩
   .exact⟨_,_,_,rfl,rfl,q5⟩
  subst hv;refine(H6 L y Y n c i 0 w (by omega) hnc).mono λq w' N=>?_;obtain⟨rfl,rfl⟩:=N;obtain⟨U,hI',rfl⟩:=R rfl;refine⟨U,hI',_,L0,rfl,?_,λblk c h=>.inl ⟨c,h⟩⟩;rw[C];exact H
 .have hvx:∀(i:Nat) (x:e.den),g[i]?=some x->_:=hvx;obtain rfl:v2=.slice (some ⟨T,r,none⟩) g.length vc:=by simpa using q2
  obtain⟨p,n1,n2,n3,n4⟩:=C1 (w:=w) (I:=I) (l:=g) (blk:=T) (off:=r) λi x hx=>by
   obtain⟨es,a1,a2,a3⟩:=hvx i x hx;exact⟨es,a1,λj c B=>(a2 j c B).1,a3⟩
  have hel:eQ w I e g p:=n4;rcases SE g.length with D|D
  ·
   have J:g=[]:=vY.1 D;subst J;have C:l.take i++([]:List e.den)++l.drop i=l:=by simp
   obtain⟨y,n,c,hv,hnl,hnc⟩:∃y n c,v=.slice y n c/\n=l.length/\n<=c:=by
    rcases H with ⟨_,rfl,rfl⟩|⟨blk,a,cur,tid,fr,_,rfl,_,_,q5,_⟩
    .exact⟨none,0,0,rfl,rfl,cD _⟩
    .exact⟨_,_,_,rfl,rfl,q5⟩
   subst hv;refine(H6 L y (some ⟨T,r,none⟩) n c i vc w (by omega) hnc).mono λq w' N=>?_;obtain⟨rfl,rfl⟩:=N;obtain⟨U,hI',rfl⟩:=R rfl;refine⟨U,hI',_,L0,rfl,?_,λblk c h=>.inl ⟨c,h⟩⟩;rw[C];exact H
  ·
   have hvI:I T r/\T<w.heap.size/\∃A tA frA,w.heap[T]?=some (.cells A tA frA)/\A.size≠0:=by
    obtain⟨x0,ajJ⟩:∃x0,g[0]?=some x0:=⟨_,jE D⟩;obtain⟨es,a1,a2,a3⟩:=hvx 0 x0 ajJ;have hes:0<es.length:=by omega
    obtain⟨b1,b2⟩:=a2 0 es[0] (jE hes);simp only[O9,v7] at b1 b2;refine⟨b2,hI _ _ b2,?_⟩;simp only[World.cell?] at b1;split at b1
    .rename_i A tA frA hA;refine⟨A,tA,frA,hA,λh0=>?_⟩;simp at b1;have:=(u9.1 b1).1;omega
    .cases b1
   obtain⟨hvI,hvw,A,tA,frA,hA,hA0⟩:=hvI;have S:Src P e.size (ρ.t 24) (.slice (some ⟨T,r,none⟩) g.length vc) g.length p w:=Src.ofSlice w L.t24 ⟨T,r,none⟩ g.length vc p n1 (λj u B=>by rw[addr_add];exact n2 j u B) n3;have pC:∀{w':World} {a:Nat} {cells:Array Value} {blk:Nat} {fr':Nat×Nat},w'.os=w.os->w'.tape=w.tape->w'.output=w.output->w.heap.size<=w'.heap.size->(∀q,q<w.heap.size->w'.heap[q]?=w.heap[q]?) ->
     blk=w.heap.size->w'.heap[blk]?=some (.cells cells (ρ.t 9) (0,0))->l.length+g.length<=a->a<=maxLen->cells.size=a*e.size ->
     (∀(q:Nat) (x:e.den),(l.take i++g++l.drop i)[q]?=some x->bB w I e x ((cells.toList.drop<|q*e.size).take e.size)) ->
     ∃U,kH w I (λk=>∃c,L0=some (k,c)) w' U/\∃v' L',Ending.returned (.slice (some ⟨w.heap.size,0,none⟩) (l.length+g.length) a)=.returned v'/\vp w' U e (l.take i++g++l.drop i) L' v'/\∀blk c,L'=some (blk,c)->(∃c,L0=some (blk,c))\/w.heap.size<=blk:=by
    intro w' a cells blk fr' o1 o2 o3 o4 o5 hbk K W hc2 hc3 agm;subst hbk;have hlen:(l.take i++g++l.drop i).length=l.length+g.length:=by simp;omega
    refine⟨I,kH.mk' o1 o2 o3 o4 (λq Q _=>o5 q Q) hI,_,some (w.heap.size,a),rfl,.inr ⟨w.heap.size,a,cells,ρ.t 9,(0,0),rfl,by rw[hlen],K,uq _ _,by rw[hlen];exact W,hc2,hc3,λo hi=>by have:=hI _ _ hi;omega,λq x hx=>?_⟩,λblk c h=>by
     obtain⟨rfl,_⟩:=dz (aE h);exact .inr (cD _)⟩
    exact bB.mono (λ_ _ h=>h) (λb o hi=>de (o5 b<|hI b o hi)) (agm q x hx)
   rcases H with ⟨rfl,rfl,rfl⟩|⟨blk,a,cur,tid,fr,rfl,rfl,q3,q4,q5,q6,q7,q8,q9⟩
   ·
    obtain rfl:i=0:=by simpa using hil
    obtain⟨a,cells,g1,g2,g3,g4,g5⟩:=Ac (P:=P) (I:=I) (ty:=ρ.t 24) (l:=([]:List e.den)) (base:=none) (sCap:=0) (olds:=[]) L.t24 he hby (by simpa using run_firstCells_none w.drew e.size 0 0 0) (by simp) (λi x hx=>by cases hx) S hel
     (by simpa using D) (by simpa using X)
    simp only[gi,pv,wY] at g1 g2 g5;refine(Re L none 0 0 g.length vc (some ⟨T,r,none⟩) w _ _ D (cD _) g1).mono λq w' N=>?_;obtain⟨rfl,rfl⟩:=N;have:=pC (w':=w.drew.alloc (.cells cells<|ρ.t 9)) (fr':=(0,0)) rfl rfl rfl (by simp) (λq Q=>cG w.drew _ q Q) rfl (heap_alloc_new w.drew _) (by simpa using g2) g3 g4 (λq x hx=>g5 q x (by simpa using hx));simpa using this
   .have af7:blk<w.heap.size:=(u9.1 q3).1;have hcl:cur.toList.length=a*e.size:=by simpa using q7
    have hlk:l.length*e.size<=a*e.size:=fN _ q5;have hne:T≠blk:=λh=>q8 r (h▸hvI);have aek:∀v∈cur.toList.take (l.length*e.size),v.oneCell'=true:=by
     intro v hv;obtain⟨j,B⟩:=OZ.1 hv;rw[gm] at B;split at B
     .rename_i hjl;have hd:j / e.size<l.length:=by rw[XB V];exact hjl
      have hm:=q9 (j / e.size) l[j / e.size] (jE hd);refine hm.one v ?_;have ajK:=w9 j V;have hjj:j / e.size*e.size+j % e.size=j:=by rw[SN];exact SK j e.size
      refine iy (i:=j % e.size) ?_;rw[gm,bd ajK,l9,hjj];exact B
     .cases B
    have afM:∀{w':World} {F:List Value},w'.os=w.os->w'.tape=w.tape->w'.output=w.output->w.heap.size<=w'.heap.size->(∀q,q<w.heap.size->q≠blk->w'.heap[q]?=w.heap[q]?) ->
      w'.heap[blk]?=some (.cells F.toArray tid fr)->F.length=a*e.size->l.length+g.length<=a ->
      (∀(q:Nat) (x:e.den),(l.take i++g++l.drop i)[q]?=some x->bB w I e x ((F.drop<|q*e.size).take e.size)) ->
      ∃U,kH w I (λk=>∃c,some (blk,a)=some (k,c)) w' U/\∃v' L',Ending.returned (.slice (some ⟨blk,0,none⟩) (l.length+g.length) a)=.returned v'/\vp w' U e (l.take i++g++l.drop i) L' v'/\∀b c,L'=some (b,c)->(∃c,some (blk,a)=some (b,c))\/w.heap.size<=b:=by
     intro w' F o1 o2 o3 o4 o5 K hF d agm;have hlen:(l.take i++g++l.drop i).length=l.length+g.length:=by simp;omega
     have VE:F.toArray.size=cur.size:=by rw[Iv,hF,q7]
     refine⟨I,kH.mk' o1 o2 o3 o4 (λq Q hn=>o5 q Q λe=>hn ⟨a,by rw[e]⟩) hI,_,some (blk,a),rfl,.inr ⟨blk,a,F.toArray,tid,fr,rfl,by rw[hlen],K,q4.same VE,by rw[hlen];exact d,q6,by rw[VE];exact q7,q8,λq x hx=>?_⟩,λb c h=>.inl ⟨c,h⟩⟩;refine bB.mono (λ_ _ h=>h) (λb o hi=>de (o5 b (hI b o hi) λe=>?_)) (agm q x hx);subst e;exact q8 o hi
    rcases ud i l.length with QF|QF
    .rcases ud a (l.length+g.length) with d|d
     ·
      refine(acA L blk l.length a i T r g.length vc [] p w e1 e2 e3 hzc V hbs QF D q5 d X q3 q7 aek n1 n2 hvw n3).mono λq w' N=>?_;obtain⟨G,Z,hG1,hG2,hZ,rfl,rfl⟩:=N;have hRk:(l.length+g.length)*e.size<=G*e.size:=fN _ hG1;have O:i*e.size+p.length<=(cur.toList.take (i*e.size)++Z).length:=by
       rw[hZ,n1,<-gn];exact fN _ (by omega)
      have hs1:=bH O;have hl1:((cur.toList.take<|l.length*e.size).drop<|i*e.size).length=(l.length-i)*e.size:=by
       rw[ma,gM,sw (by omega),SP]
      have E:(i+g.length)*e.size+((cur.toList.take<|l.length*e.size).drop<|i*e.size).length<=(aQ (cur.toList.take (i*e.size)++Z) (i*e.size) p).length:=by
       rw[hs1,hZ,hl1,<-gn];exact fN _ (by omega)
      have hs2:=bH E;have hik:i*e.size<=l.length*e.size:=fN _ (by omega);have hti:(cur.toList.take<|i*e.size).length=i*e.size:=by rw[gM];omega
      have K:(((w.drew.alloc<|.cells (cur.toList.take (i*e.size)++Z).toArray<|ρ.t 9).setRow w.heap.size (aQ (cur.toList.take (i*e.size)++Z) (i*e.size) p).toArray).drew.setRow w.heap.size (aQ (aQ (cur.toList.take (i*e.size)++Z) (i*e.size) p) ((i+g.length)*e.size)<|(cur.toList.take<|l.length*e.size).drop<|i*e.size).toArray).heap[w.heap.size]? =
        some (.cells (aQ (aQ (cur.toList.take (i*e.size)++Z) (i*e.size) p) ((i+g.length)*e.size)<|(cur.toList.take<|l.length*e.size).drop<|i*e.size).toArray (ρ.t 9) (0,0)) :=
       setRow_heap _ _ _ _ _ _ (show((w.drew.alloc<|.cells (cur.toList.take (i*e.size)++Z).toArray<|ρ.t 9).setRow w.heap.size (aQ (cur.toList.take (i*e.size)++Z) (i*e.size) p).toArray).drew.heap[w.heap.size]?=_ from setRow_heap _ _ _ _ _ _ (heap_alloc_new w.drew _))
      refine pC (fr':=(0,0)) rfl rfl rfl (by simp) (λq Q=>?_) rfl K hG1 hG2 (by rw[Iv,hs2,hs1,hZ]) ?_
      .rw[setRow_other _ _ _ _<|by omega];show((w.drew.alloc _).setRow w.heap.size _).heap[q]?=_
       rw[setRow_other _ _ _ _<|by omega];exact cG w.drew _ q Q
      .refine PC (cur:=cur.toList) (vs:=p) (n:=l.length) (m:=g.length) rfl rfl hil q9 hel (λj B=>?_) (λj B=>?_) (λj B=>?_)
       .rw[cm E,bd (by rw[gn];omega),cm O,bd B,Qh (by rw[hti];exact B),gm,bd B]
       .rw[cm E,bd (by rw[gn];omega),cm O,bb (by omega),bd (by rw[n1];omega)]
        congr 1;omega
       .rw[cm E,bb (by omega),bd (by rw[hl1];omega),l9,gm,bd (by
         have:i*e.size+(l.length-i)*e.size=l.length*e.size:=by rw[<-gn];congr 1;omega
         omega)]
        congr 1;omega
     ·
      have hmk:(l.length+g.length)*e.size<=a*e.size:=fN _ d;have agk:(i+g.length)*e.size<=a*e.size:=fN _ (by omega);refine(ZI L blk l.length a i T r g.length vc [] p w QF D d (by unfold maxLen at q6;omega) hne q3 q4.th q7 aek n1 n2 n3 λlb cb=>?_).mono λq w' N=>?_
      .refine IX w _ _ (ρ.t 9) L.t24 e.size L.z9 ⟨T,r,none⟩ ⟨blk,(i+g.length)*e.size,none⟩ g.length vc lb cb hne tA tid A.size cur.size (by simp[World.shape?,hA]) (by simp[World.shape?,q3]) hA0 ?_ ?_
       .refine PD q3 ?_;rcases ud ((i+g.length)*e.size) cur.size with hlt|hge
        .exact q4.th _ hlt
        .have:(i+g.length)*e.size=cur.size:=by omega
         rw[this];exact q4.um hint
       .exact PD q3 (q4.um hint)
      .obtain⟨rfl,rfl⟩:=N;have hik:i*e.size<=l.length*e.size:=fN _ (by omega);have hl1:((cur.toList.take<|l.length*e.size).drop<|i*e.size).length=(l.length-i)*e.size:=by
        rw[ma,gM,sw (by omega),SP]
       have O:(i+g.length)*e.size+((cur.toList.take<|l.length*e.size).drop<|i*e.size).length<=cur.toList.length:=by
        rw[hl1,hcl,<-gn];exact fN _ (by omega)
       have hs1:=bH O;have E:i*e.size+p.length<=(aQ cur.toList ((i+g.length)*e.size)<|(cur.toList.take<|l.length*e.size).drop<|i*e.size).length:=by
        rw[hs1,hcl,n1,<-gn];exact agk
       have hs2:=bH E;refine afM rfl rfl rfl (by simp) (λq Q hqb=>?_) (setRow_heap _ _ _ _ _ _<|setRow_heap w.drew blk cur _ tid fr q3) (by rw[hs2,hs1,hcl]) d ?_
       .rw[setRow_other _ _ _ _ hqb,setRow_other _ _ _ _ hqb];rfl
       .refine PC (cur:=cur.toList) (vs:=p) (n:=l.length) (m:=g.length) rfl rfl hil q9 hel (λj B=>?_) (λj B=>?_) (λj B=>?_)
        .rw[cm E,bd B,cm O,bd (by rw[gn];omega)]
        .rw[cm E,bb (by omega),bd (by rw[n1];omega)]
         congr 1;omega
        .rw[cm E,bb (by rw[gn];omega),bb (by rw[n1,gn];omega),cm O,bb (by omega),bd (by rw[hl1];omega),l9,gm,bd (by
          have:i*e.size+(l.length-i)*e.size=l.length*e.size:=by rw[<-gn];congr 1;omega
          omega)]
         congr 1;omega
    ·
     obtain rfl:i=l.length:=by omega
     have C:l.take l.length++g++l.drop l.length=l++g:=by simp
     rcases ud a (l.length+g.length) with d|d
     .have hfc:=run_firstCells_some (P:=P) w.drew e.size l.length ⟨blk,0,none⟩ l.length a (cur.toList.take<|l.length*e.size) (by rw[gM];omega) (λj v B=>by
       rw[addr_add];show w.cell? ⟨blk,0+j,none⟩=some v
       rw[cell_of_heap q3];rw[gm] at B;split at B
       .simpa using B
       .cases B)
      obtain⟨ai3,cells,g1,g2,g3,g4,g5⟩:=Ac (P:=P) (I:=I) (ty:=ρ.t 24) (l:=l) (base:=some ⟨blk,0,none⟩) (sCap:=a) L.t24 he hby hfc (by rw[gM];omega) (eQ.front (n:=l.length*e.size) q9 (cD _)<|by omega) S hel d X;refine(Re L _ l.length a g.length vc _ w _ _ D q5 g1).mono λq w' N=>?_;obtain⟨rfl,rfl⟩:=N;exact pC (w':=w.drew.alloc (.cells cells<|ρ.t 9)) (fr':=(0,0)) rfl rfl rfl (by simp) (λq Q=>cG w.drew _ q Q) rfl (heap_alloc_new w.drew _) g2 g3 g4 (by rw[C];exact g5)
     .have hnl:=S.newsLen;have hmul:(l.length+g.length)*e.size<=a*e.size:=fN _ d;rw[gn] at hmul;have hlen:l.length*e.size+p.length<=cur.toList.length:=by rw[hnl,hcl];exact hmul
      have af9:=kF (P:=P) (t:=ρ.t 24) (tx:=ρ.t 24) (ty:=ρ.t 24) (sCap:=a) L.t24 (L.z9 w) S q3 q4.th d (by simpa using hlen);refine(Re L _ l.length a g.length vc _ w _ _ D q5 af9).mono λq w' N=>?_;obtain⟨rfl,rfl⟩:=N;refine afM rfl rfl rfl (by simp) (λq Q hqb=>setRow_other _ _ _ _ hqb) (setRow_heap w blk cur _ tid fr q3) (by rw[bH hlen,hcl]) d ?_;rw[C];have:=(eQ.front (n:=l.length*e.size) q9 (cD _)<|by omega).append (rest:=cur.toList.drop (l.length*e.size+p.length)) hel (by rw[gM];omega) hnl;exact this
end Go.Ge
namespace Go.Ge
variable [Lp]
open RowKit Go.Shelf Go.Lib Go.Proofs
theorem IY{P:Program}{b:Array Oper}{o:Oper}{a:Act}{w:World}{K:Act->World->Prop}{Q:Exit->Act->World->Prop}{E:Prop}
  (h:o.guard=none) (s x:Operand) (t:TypeId) (d:o.op=Op.call { callee:=Callee.builtin Builtin.append,args:=#[s,x],argTypes:=#[t,t] })
  (e f v:Value) (g:World) (i:a.eval s=e) (j:a.eval x=f) (c:(Builtin.append_ #[t,t] o.type #[e,f]).run P w=.ok v g) (l:K (a.put o.dst v) g) :
  if Region.wanted o (yielded b a.tmps)=true then Oper.wp P o a w K Q else E:=by
 have m:Region.wanted o (yielded b a.tmps)=true:=by simp[Region.wanted,h]
 rw[bd m];unfold Oper.wp;simp[execOp,d,resolve,invoke,builtin,i,j,c,Result.andThen];exact l
theorem TX{P:Program}(w:World)(i ty c:TypeId)(b o n e:Nat){z:Value}{a:Array Value}{j:TypeId}{f:Nat×Nat}
  (l:P.underlying i=some (.slice c)) (p:∀w,(zeroValue c).run P w=.ok z w) (q:∀u∈(Builtin.zeroCells z.cells n).toList,u.oneCell'=true) (s:0<n)
  (r:w.heap[b]?=some (.cells a j f)) (g:lU a f) (h:o+(Builtin.zeroCells z.cells n).size<=a.size) :
  (Builtin.clear_ #[i] ty #[.slice (some ⟨b,o,none⟩) n e]).run P w=.ok (.tuple #[]) (w.setRow b (aQ a.toList o (Builtin.zeroCells z.cells n).toList).toArray):=by
 have d:=cS (P:=P) b o j f (Builtin.zeroCells z.cells n).toList 0 a w r g (by simpa using h) q;rw[v7] at d;obtain⟨m,rfl⟩:∃m,n=m+1:=⟨n-1,by omega⟩;simp[Builtin.clear_,run_underlying l,p,d]
structure acB (P:Program) (ρ:Ren) (nm:String) (k:Nat) (z:Value):Prop where
 mixed:P.follows .mixedOrders=true
 f24:P.funcs[ρ.f 24]?=some { Body2.n24 ρ with name:=nm }
 t3:P.underlying (ρ.t 3)=some (TypeDesc.int IntKind.i64)
 t4:P.underlying (ρ.t 4)=some TypeDesc.bool
 t24:P.underlying (ρ.t 24)=some (TypeDesc.slice<|ρ.t 9)
 z9:∀w,(Go.sizeOf<|ρ.t 9).run P w=.ok k w
 v9:∀w,(zeroValue<|ρ.t 9).run P w=.ok z w
variable {P:Program} {ρ:Ren} {nm:String} {k:Nat} {z:Value}
set_option maxHeartbeats 4000000 in
set_option maxRecDepth 100000 in
theorem TY(L:acB P ρ nm k z)(a:Option Addr)(n c i:Nat)(w:World)(h:i<=n)(b:n<=c) :
  Calls P (ρ.f 24) #[.slice a n c,.int .i64 i,.int .i64 i] w λe w'=>e=.returned (.slice a n c)/\w'=w:=by
 have t3:=L.t3;have t4:=L.t4;have t24:=L.t24;have z9:=L.z9;have j:=run_underlying L.t3;have l:=run_underlying L.t4;have d:=run_underlying L.t24;have mixed:=L.mixed;have g:(i:Int)<=(n:Int):=by omega
 go_enter L.f24,Body2.n24_ntmps ρ
 go_wp2
 all_goals (go_ret;exact⟨rfl,rfl⟩)
set_option maxHeartbeats 4000000 in
set_option maxRecDepth 100000 in
theorem acC(L:acB P ρ nm k z)(b n c i j:Nat)(w g m:World)(o:i<j)(x:j<=n)(p:n<=c)(_hc63:c<=9223372036854775807)
  (a:∀A,(A=⟨b,j*k,none⟩\/(c=j/\A=⟨b,0,none⟩))->(Builtin.append_ #[ρ.t 24,ρ.t 24] (ρ.t 24) #[.slice (some ⟨b,0,none⟩) i c,.slice (some A) (n-j) (c-j)]).run P w.drew=.ok (.slice (some ⟨b,0,none⟩) (i+(n-j)) c) g)
  (q:∀ty,(Builtin.clear_ #[ρ.t 24] ty #[.slice (some ⟨b,(i+(n-j))*k,none⟩) (n-(i+(n-j)))<|c-(i+(n-j))]).run P g=.ok (.tuple #[]) m) :
  Calls P (ρ.f 24) #[.slice (some ⟨b,0,none⟩) n c,.int .i64 i,.int .i64 j] w λe w'=>e=.returned (.slice (some ⟨b,0,none⟩) (i+(n-j)) c)/\w'=m:=by
 have t3:=L.t3;have t4:=L.t4;have t24:=L.t24;have z9:=L.z9;have y:=run_underlying L.t3;have B:=run_underlying L.t4;have r:=run_underlying L.t24;have mixed:=L.mixed;obtain⟨A,C,l⟩:∃A:Addr,(if c=j then some (⟨b,0,none⟩:Addr) else some ⟨b,j*k,none⟩)=some A/\(A=⟨b,j*k,none⟩\/(c=j/\A=⟨b,0,none⟩)):=by
  by_cases h:c=j
  .exact⟨⟨b,0,none⟩,by simp[h],.inr ⟨h,rfl⟩⟩
  .exact⟨⟨b,j*k,none⟩,by simp[h],.inl rfl⟩
 have d:=a A l;clear a;have s:i<=c:=by omega
 have u:j<=c:=by omega
 have v:¬(c=i+(n-j)):=by omega
 go_enter L.f24,Body2.n24_ntmps ρ
 go_wp2_with fail
 go_region_law_o (refine IY rfl (.tmp 22) (.tmp 25) (ρ.t 24) rfl (.slice (some ⟨b,0,none⟩) i c) (.slice (some A) (n-j)<|c-j) _ g (by simp[Act.eval,Act.put]) (by simp[Act.eval,Act.put]) d ?_)
 go_wp2
 go_ret
 exact⟨rfl,rfl⟩
def TZ{α:Type}(l:List α)(i j:Int):Option (List α):=bif inside i j (len l) then some (l.take i.toNat++l.drop j.toNat) else none
theorem ZJ{w:World}{I:Nat->Nat->Prop}{e:Ty}{l:List e.den}{cur F:List Value}{i j n:Nat}(f:l.length=n)(u:i<=j)(v:j<=n)(s:∀(q:Nat) (x:e.den),l[q]?=some x->bB w I e x ((cur.drop<|q*e.size).take e.size))
  (g:∀t,t<i*e.size->F[t]?=cur[t]?) (h:∀t,t<(n-j)*e.size->F[i*e.size+t]?=cur[j*e.size+t]?) :
  ∀(q:Nat) (x:e.den),(l.take i++l.drop j)[q]?=some x->bB w I e x ((F.drop<|q*e.size).take e.size):=by
 intro q x c;have m:(l.take i).length=i:=by rw[gM];omega
 have step:∀{a b:Nat},a<b->∀t,t<e.size->a*e.size+t<b*e.size:=λ{a b} o t d=>by
  have:(a+1)*e.size<=b*e.size:=fN _ o;rw[gn,Nat.one_mul] at this;omega
 rw[Sz,m] at c;split at c
 .rename_i p;rw[gm,bd p] at c;rw[xB (L':=cur) (p':=q*e.size) λt d=>g _ (step p t d)];exact s q x c
 .rename_i p;obtain⟨r,rfl⟩:∃r,q=i+r:=⟨q-i,by omega⟩;rw[show i+r-i=r by omega,l9] at c;have y:j+r<n:=by rw[<-f];exact(ix.1 c).1
  rw[xB (L':=cur) (p':=(j+r)*e.size) λt d=>by
   have:=h (r*e.size+t) (step (show r<n-j by omega) t d);rw[show(i+r)*e.size+t=i*e.size+(r*e.size+t) by rw[gn,x8],this]
   congr 1;rw[gn];omega]
  exact s (j+r) x c
theorem EO{e:Ty}(L:acB P ρ nm e.size z)(hnm:(nm == "runtime.NumGoroutine")=false)(hz:z.cells.toList=dX e)(H:0<e.size) :
  eF P (ρ.f 24) (.own e (.pair (.int .i64)<|.pair (.int .i64) .unit) true λl x=>TZ (α:=e.den) l x.1 x.2.1):=by
 refine⟨⟨_,_,L.f24,hnm,rfl⟩,λI w W v rest l l' L0 x hI J s K d=>?_⟩;have hz1:∀u∈dX e,u.oneCell'=true:=λu hu=>(jS w I e).one u hu;obtain⟨M,N,xu⟩:=x;change Int at M;change Int at N;obtain⟨cs1,r1,rfl,O,cs2,r2,rfl,Q,rfl⟩:=K;obtain⟨O,_,_⟩:=O;obtain⟨Q,_,_⟩:=Q;subst O Q;change TZ (α:=e.den) l M N=some l' at d;have hsp:inside M N (len l)=true/\l'=l.take M.toNat++l.drop N.toNat:=by
  unfold TZ at d;cases hq:inside M N (len l) with
  | true=>rw[hq] at d;exact⟨rfl,(aE d).symm⟩
  | false=>rw[hq] at d;cases d
 obtain⟨R,rfl⟩:=hsp;obtain⟨hx0,hxl,hxn⟩:=iS R;simp only[len] at hxn;obtain⟨i,rfl⟩:∃i:Nat,M=i:=⟨M.toNat,by omega⟩;obtain⟨j,rfl⟩:∃j:Nat,N=j:=⟨N.toNat,by omega⟩;have hij:i<=j:=by omega
 have hj:j<=l.length:=by omega
 rw[rK,rK];have E:W=#[v,.int .i64 i,.int .i64 j]:=by apply CQ.1;rw[J];rfl
 subst E;rcases ud i j with hlt|hge
 .rcases s with ⟨rfl,rfl,rfl⟩|⟨g,m,cur,tid,U,rfl,rfl,q3,q4,q5,q6,q7,q8,q9⟩
  .simp at hj;omega
  .have X:cur.toList.length=m*e.size:=by simpa using q7
   have hlk:l.length*e.size<=m*e.size:=fN _ q5;have hjk:j*e.size<=l.length*e.size:=fN _ hj;have Y:∀v∈cur.toList.take (l.length*e.size),v.oneCell'=true:=by
    intro v V;obtain⟨t,r⟩:=OZ.1 V;rw[gm] at r;split at r
    .rename_i htl;have hd:t / e.size<l.length:=by rw[XB H];exact htl
     have hm:=q9 (t / e.size) l[t / e.size] (jE hd);refine hm.one v ?_;have y:=w9 t H;have htt:t / e.size*e.size+t % e.size=t:=by rw[SN];exact SK t e.size
     refine iy (i:=t % e.size) ?_;rw[gm,bd y,l9,htt];exact r
    .cases r
   obtain⟨a,p⟩:∃a,a=(cur.toList.take<|l.length*e.size).drop (j*e.size):=⟨_,rfl⟩;have B:a.length=(l.length-j)*e.size:=by
    rw[p,ma,gM,sw (by omega),SP]
   have hn1:∀v∈a,v.oneCell'=true:=λv V=>Y v (by rw[p] at V;exact Kk V);have ajL:i*e.size+(l.length-j)*e.size<=m*e.size:=by rw[<-gn];exact fN _ (by omega)
   have F:i*e.size+a.length<=cur.toList.length:=by rw[B,X];exact ajL
   have S:=bH F;obtain⟨Z,hZ⟩:∃Z,Z=(Builtin.zeroCells z.cells<|l.length-(i+(l.length-j))).toList:=⟨_,rfl⟩;have hzs:z.cells.size=e.size:=by rw[<-dS e,<-hz];simp
   have hZl:Z.length=(l.length-(i+(l.length-j)))*e.size:=by rw[hZ];simp[Builtin.zeroCells,hzs]
   have hZ1:∀u∈(Builtin.zeroCells z.cells<|l.length-(i+(l.length-j))).toList,u.oneCell'=true:=by
    intro u hu;simp only[Builtin.zeroCells] at hu;obtain⟨t,r⟩:=OZ.1 hu;simp at r;obtain⟨t1,_,ht2⟩:=r;have y:t1 % z.cells.size<z.cells.size:=w9 _ (by omega);refine hz1 u ?_;rw[<-hz,<-ht2,getElem!_pos z.cells _ y];simp
   have G:(i+(l.length-j))*e.size+Z.length<=(aQ cur.toList (i*e.size) a).length:=by
    rw[S,X,hZl,<-gn];exact fN _ (by omega)
   have hs2:=bH G;have T:w.drew.heap[g]?=some (.cells cur tid U):=q3;have hg1:(w.drew.setRow g (aQ cur.toList (i*e.size) a).toArray).heap[g]?=some (.cells (aQ cur.toList (i*e.size) a).toArray tid U):=setRow_heap w.drew g cur _ tid U T;have ajM:lU (aQ cur.toList (i*e.size) a).toArray U:=q4.th.same (by rw[Iv,S];simp);have ajN:=λty=>TX (P:=P) (w.drew.setRow g (aQ cur.toList (i*e.size) a).toArray) (ρ.t 24) ty (ρ.t 9) g ((i+(l.length-j))*e.size) (l.length-(i+(l.length-j))) (m-(i+(l.length-j))) L.t24 L.v9 hZ1 (by omega) hg1 ajM (by
    rw[Iv,<-Kl,<-hZ];exact G)
   refine(acC L g l.length m i j w _ _ hlt hj q5 (by unfold maxLen at q6;omega) (λA hA=>?_) ajN).mono λq w' hw=>?_
   .have ajO:Src P e.size (ρ.t 24) (.slice (some A) (l.length-j)<|m-j) (l.length-j) a w.drew:=Src.ofSlice w.drew L.t24 A (l.length-j) (m-j) a B (λt u r=>by
     rcases hA with rfl|⟨hc,rfl⟩
     .rw[addr_add,cell_of_heap T];rw[p,l9,gm] at r;split at r
      .simpa using r
      .cases r
     .have h0:a.length=0:=by rw[B,show l.length-j=0 by omega];simp
      rw[vY.1 h0] at r;cases r) hn1
    exact kF (P:=P) (t:=ρ.t 24) (tx:=ρ.t 24) (ty:=ρ.t 24) (sCap:=m) L.t24 (L.z9 w.drew) ajO T q4.th (by omega) (by simpa using F)
   .obtain⟨rfl,rfl⟩:=hw;have hlen:(l.take i++l.drop j).length=i+(l.length-j):=by simp;omega
    have VE:(aQ (aQ cur.toList (i*e.size) a) ((i+(l.length-j))*e.size) Z).toArray.size=cur.size:=by rw[Iv,hs2,S];simp
    rw[<-hZ];refine⟨I,kH.mk' rfl rfl rfl (by simp) (λq hq hn=>?_) hI,_,some (g,m),rfl,.inr ⟨g,m,(aQ (aQ cur.toList (i*e.size) a) ((i+(l.length-j))*e.size) Z).toArray,tid,U,rfl,by rw[hlen],setRow_heap _ _ _ _ _ _ hg1,q4.same VE,by rw[hlen];omega,q6,by rw[VE];exact q7,q8,λq x hx=>?_⟩,λb c h=>.inl ⟨c,h⟩⟩
    .have C:q≠g:=λe=>hn ⟨m,by rw[e]⟩;rw[setRow_other _ _ _ _ C,setRow_other _ _ _ _ C];rfl
    .refine bB.mono (λ_ _ h=>h) (λb o hi=>de (by
      have C:b≠g:=λe=>q8 o (e▸hi);rw[setRow_other _ _ _ _ C,setRow_other _ _ _ _ C];rfl)) (ZJ (cur:=cur.toList) (n:=l.length) rfl hij hj q9 (λt r=>?_) (λt r=>?_) q x hx)
     .rw[cm G,bd (by rw[gn];omega),cm F,bd r]
     .rw[cm G,bd (by rw[gn];omega),cm F,bb (by omega),bd (by rw[B];omega),p,l9,gm,bd (by
       have:j*e.size+(l.length-j)*e.size=l.length*e.size:=by rw[<-gn];congr 1;omega
       omega)]
      congr 1;omega
 .obtain rfl:i=j:=by omega
  have aej:l.take i++l.drop i=l:=x6 i l;obtain⟨D,n,c,V,B,hnc⟩:∃D n c,v=.slice D n c/\n=l.length/\n<=c:=by
   rcases s with ⟨_,rfl,rfl⟩|⟨g,m,cur,tid,U,_,rfl,_,_,q5,_⟩
   .exact⟨none,0,0,rfl,rfl,cD _⟩
   .exact⟨_,_,_,rfl,rfl,q5⟩
  subst V;refine(TY L D n c i w (by omega) hnc).mono λq w' hw=>?_;obtain⟨rfl,rfl⟩:=hw;refine⟨I,kH.mk' rfl rfl rfl (cD _) (λ_ _ _=>rfl) hI,_,L0,rfl,?_,λg c h=>.inl ⟨c,h⟩⟩;rw[aej];exact s
end Go.Ge
namespace Go.Ge
variable [Lp]
def IZ{c:Type}(a b:Option c):Prop:=∀y,a=some y->b=some y
theorem IZ.refl{α:Type}(a:Option α):IZ a a:=λ_ h=>h
theorem IZ.ab{b g:Type}{a c:Option b}{f d:b->Option g}(h:IZ a c)(k:∀x,IZ (f x) (d x)):IZ (ab a f) (ab c d):=λy e=>by
 cases a with
 | none=>cases e
 | some x=>rw[h x rfl];exact k x y e
theorem IZ.aj{α:Type}{c:Bool}{a d b e:Option α}(h:IZ a d)(k:IZ b e):IZ (aj c a b) (aj c d e):=by cases c<;>assumption
theorem IZ.cond{α:Type}{c:Bool}{a d b e:Option α}(h:IZ a d)(k:IZ b e):IZ (cond c a b) (cond c d e):=by cases c<;>assumption
theorem IZ.cA{S:Type}{a b:Option (S⊕(Nat×S))}(h:IZ a b):IZ (cA a) (cA b):=λy c=>by
 cases a with
 | none=>cases c
 | some x=>rw[h x rfl];exact c
theorem IZ.pick{a b c:Type}{f d:a->Option c}{g e:b->Option c}{x:a⊕b}(h:∀y,IZ (f y) (d y))(k:∀y,IZ (g y) (e y)):IZ (pick f g x) (pick d e x):=by
 cases x with
 | inl y=>exact h y
 | inr y=>exact k y
def ahO{S R:Type}(f:S->Option (S⊕R))(s:S):Option R:=rounds f 100000 s
theorem IZ.loop{S R:Type}{f g:S->Option (S⊕R)}{s:S}(h:∀s,IZ (f s) (g s)):IZ (ahO f s) (Loop g s):=by
 have key:∀(n:Nat) (s:S),IZ (rounds f n s) (rounds g n s):=by
  intro n;induction n with
  | zero=>intro s y a;cases a
  | succ n c =>
    intro s y a;unfold rounds at a⊢;cases b:f s with
    | none=>rw[b] at a;cases a
    | some x =>
      rw[h s x b];rw[b] at a;cases x with
      | inl d=>exact c d y a
      | inr r=>exact a
 exact λy a=>py (key _ s y a)
abbrev Sig:=Nat×Ty×Ty
end Go.Ge
namespace Go.Ge
open Go.RowKit
end Go.Ge
