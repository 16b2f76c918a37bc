/- A ghost interpreter of the model's code, and that it tells the truth: part 6. It says of a function of plain data what a call of it comes to. -/
import Derived.Test.YtbaijbjhkmoidaaGreatDoorGeE
import Derived.Laws.Build
set_option linter.unusedVariables false
set_option linter.unusedSimpArgs false
set_option linter.unusedSectionVars false
open Go.IntKind (i64)
namespace Go.Ge
open RowKit
def nE(P:Program)(G:eg)(inl:Nat->List ax->St->Tree (ax×St)):Prop :=
 ∀(B:Own) (γ:Gh) (σ aB:St) (w:World) (f:Nat) (b:List ax) (h:Array Value) (v:ax),B.G=G->aO B γ σ.mem w->gk γ σ.mem w b h.toList->(inl f b σ).run=some (v,aB) ->
  (∃fn c,P.funcs[f]?=some fn/\(fn.name == "runtime.NumGoroutine")=false/\fn.body=some c)/\aB.slots=σ.slots /\
  Calls P f h w λe w'=>∃g bc,e=.returned g/\aO B bc aB.mem w'/\Ext B γ σ.mem w bc aB.mem w'/\bw bc aB.mem w' v .val [g]
section
variable {P:Program} {B:Own} {N:Nat} {γ:Gh} {σ aB:St} {a:Act} {w w':World} {d:Option Nat} {cx:Ctx} {nb:Nat} {bf:List Nat} {inl:Nat->List ax->St->Tree (ax×St)}
def qo(B:Own)(N:Nat)(c:Gh)(e:St)(a:Act)(w:World)(d:Option Nat)(b:St)(K:Act->World->Prop):Prop :=
 ∀bc v w',b6 B N bc b (a.put d v) w'->Ext B c e.mem w bc b.mem w'->K (a.put d v) w'
theorem Bg{f:Nat}{e:Func}{c:Code}(h:P.funcs[f]?=some e)(i:(e.name == "runtime.NumGoroutine")=false)(j:e.body=some c)(b:Array Value)(w:World) :
  (callFunc f b).run P w=.ok (.enter f b) w:=by
 have g:¬e.name = "runtime.NumGoroutine":=by simpa using i
 simp[callFunc,h,g,j]
theorem bk{o:Oper}{s:Sem Value}{K:Act->World->Prop}{Q:Exit->Act->World->Prop}(b:execOp a.eval o=(do pure<|.value (<-s)))(h:iz P B N γ σ a w o.dst s aB)(c:qo B N γ σ a w o.dst aB K):o.wp P a w K Q:=by
 obtain⟨v,w',bc,e,f,g⟩:=h;unfold Oper.wp;rw[b];simp only[Sem.run_bind,e,Result.andThen_ok,Sem.run_pure];exact c bc _ w' f g
theorem uG{ops:List Operand}(h:b6 B N γ σ a w):gk γ σ.mem w (ops.map<|bG σ) (ops.map a.eval):=by
 refine⟨by simp,λi v x b c=>?_⟩;rw[sH] at b c;cases e:ops[i]? with
 | none=>rw[e] at b;cases b
 | some o =>
   rw[e] at b c;obtain rfl:=aq b;obtain rfl:=aq c;exact h.bG o
theorem gk.append{b:Nat->Option aS}{g j:List ax}{xs l:List Value}(h:gk γ b w g xs)(k:gk γ b w j l):gk γ b w (g++j) (xs++l):=by
 refine⟨by simp[h.1,k.1],λi v x e c=>?_⟩;rw[Jj] at e c;rw[h.1] at c;split at e
 .rename_i f;rw[bH f] at c;exact h.2 i v x e c
 .rename_i f;rw[bp f] at c;exact k.2 _ v x e c
theorem aO.drop{i:Nat->Option aS}{l:World}(h:aO B γ i w){b:Nat}{m bx:aS}(A:i b=some m)(p:m.au<bx.au)(r:lg B w l)
  (q:∀k,k<w.heap.size->(∀c,γ.loc b≠some (k,c))->l.heap[k]?=w.heap[k]?) (n:∀k o,k<w.heap.size->l.cell? ⟨k,o,none⟩=w.cell? ⟨k,o,none⟩)
  (t:ca (aI γ b none) (bq i b bx) l b bx):aO B (aI γ b none) (bq i b bx) l/\Ext B γ i w (aI γ b none) (bq i b bx) l:=by
 have hx:Ext B γ i w (aI γ b none) (bq i b bx) l :=
  { below:=r
    I:=λ_ _ x=>x
    mo:=λ_ _ x=>.inl x
    cells:=λf o x=>n f o (h.lX f o x)
    boxes:=λc cx g=>by
     by_cases e:c=b
     .subst e;obtain rfl:m=cx:=aq (A.symm.trans g);exact⟨bx,aJ _ _,Jz p,λe=>absurd e (by omega)⟩
     .exact⟨cx,by rw[az _ e];exact g,cU _,λ_=>⟨by simp[aI,e],rfl,rfl⟩⟩ }
 refine⟨?_,hx⟩;exact
  { bD:=h.sX hx
    base:=iA h.base r.size
    boxes:=λc cx g=>by
     by_cases e:c=b
     .subst e;rw[aJ] at g;obtain rfl:=aq g;exact t
     .rw[az _ e] at g;refine(h.boxes c cx g).keep hx (by simp[aI,e]) λf k C=>q f (h.fresh c f k (by rw[g];simp) C).2 λu v=>e ?_;exact h.inj c b f k u (by rw[g];simp) (by rw[A];simp) C v
    inj:=λc d f k u g D j s=>by
     by_cases e:c=b
     .simp only[aI,bH e] at j;cases j
     .by_cases y:d=b
      .simp only[aI,bH y] at s;cases s
      .simp only[aI,bp e] at j;simp only[aI,bp y] at s;rw[az _ e] at g;rw[az _ y] at D;exact h.inj c d f k u g D j s
    fresh:=λc f k g j=>by
     by_cases e:c=b
     .simp only[aI,bH e] at j;cases j
     .simp only[aI,bp e] at j;rw[az _ e] at g;have:=h.fresh c f k g j;exact⟨this.1,rp this.2 r.size⟩
    lX:=λf off z=>rp (h.lX f off z) r.size
    sep:=λc cx f k off g j z=>by
     by_cases e:c=b
     .simp only[aI,bH e] at j;cases j
     .simp only[aI,bp e] at j;rw[az _ e] at g;exact h.sep c cx f k off g j z }
theorem C8{c:Nat->Option aS}{b:Nat}{f:aS}(h:c b=some f):bq c b f=c:=by
 funext i;by_cases e:i=b
 .subst e;rw[aJ,h]
 .rw[az _ e]
theorem Bh(q:aO B γ σ.mem w){l:Nat->Nat->Prop}(r:∀b o,γ.I b o->l b o)(i:∀b o,B.has b->b<w.heap.size->l b o){t:Ty}{x:t.den}{v:ax}{y:Value}
  (G:bw γ σ.mem w v .val [y]) (f:p8 σ t v=some x):∃c g m,y=.pointer (some ⟨c,g,none⟩)/\bg w l t x m/\pd w l c g m:=by
 unfold p8 at f;split at f
 .rename_i b s;split at f
  case h_2=>cases f
  rename_i A C;cases k:(Nat.beq A.au s&&!A.buf) with
  | false=>rw[k] at f;cases f
  | true =>
  rw[k] at f;simp only[cd] at f;simp only[cA,fO] at k;obtain⟨c,D,n,E⟩:=aC C (cG k.1) G.2;have h:=q.boxes b A C;unfold ca at h;rw[k.2] at h;obtain⟨H,J,F,tid,R,K,O,S,T,Q⟩:=h;rw[n] at K;obtain⟨rfl,rfl⟩:=b8 (aq K);have L:=q.fresh b c D (by rw[C];simp) n;refine⟨c,0,F.toList,pY E,pq q r i Q f,λj v p=>⟨?_,i c _ L.1 L.2⟩⟩;simp only[World.cell?,O,kL];simpa using p
 .rename_i u z;obtain⟨e,rfl⟩:=Ty.fZ f;subst e;obtain⟨c,g,m,n,E,M⟩:=G;exact⟨c,g,m,pY n,bg.mono r (λ_ _ _=>rfl) E,λj v p=>⟨(M j v p).1,r _ _ (M j v p).2⟩⟩
 .cases f
theorem C9(q:aO B γ σ.mem w){I':Nat->Nat->Prop}(s:∀b o,γ.I b o->I' b o)(g:∀b o,B.has b->b<w.heap.size->I' b o):∀{ps:List Bool} {A:Ty} {x:A.den} {e:List ax} {i:List Value},
  gk γ σ.mem w e i->rE σ ps A e=some x->GB w I' ps A x i:=by
 intro ps;induction ps with
 | nil =>
   intro A x e i h f;cases A<;>cases e<;>first|(cases f;done)|exact tY.1 h.1
 | cons p ps u =>
   intro A x e i h f;cases A<;>cases e<;>first|(cases f;done)|skip
   rename_i t r v e;obtain⟨y,c,rfl,z,C⟩:=h.cons;simp only[rE] at f;split at f
   .rename_i a b D E;obtain rfl:=aq f;cases p with
    | false =>
      obtain⟨j,k,l⟩:=ti q s g z D;exact⟨j,y,c,rfl,k,u C E,l⟩
    | true =>
      obtain⟨m,n,j,k,l,F⟩:=Bh q s g z D;exact⟨j,y,c,rfl,l,u C E,m,n,k,F⟩
   .cases f
theorem zd{f:Nat}{s:IW}{HE:List ax}{xs:Array Value}(hs:ko P f s)(h:b6 B N γ σ a w)(hd:∀k,d=some k->k<N)(hv:gk γ σ.mem w HE xs.toList)
  (r:(qV s d HE σ).run=some aB) {K:Act->World->Prop} (hK:qo B N γ σ a w d aB K) :
  (∃fn code,P.funcs[f]?=some fn/\(fn.name == "runtime.NumGoroutine")=false/\fn.body=some code)/\Calls P f xs w λe w'=>∃v,e=.returned v/\K (a.put d v) w':=by
 unfold qV at r;split at r
 .rename_i T b au;split at r
  case h_2=>cases r
  rename_i bx M;split at r
  case h_2=>cases r
  rename_i b' v' u un J;obtain⟨n,t⟩:=ak r;obtain rfl:=aq t;simp only[cA,fO] at n;obtain⟨⟨⟨⟨⟨⟨⟨⟨c1,c2⟩,c3⟩,c4⟩,X⟩,c6⟩,c7⟩,c8⟩,c9⟩:=n;have c1:=cG c1;have X:=cG X;have c7:=cG c7;have c8:=cG c8;have c6:0<T:=by simpa using c6
  subst c7;subst c8;obtain⟨val,O,NS,g1,g2⟩:=hv.cons;have z:O=[]:=by have:=g2.1;simpa using this
  subst z;obtain⟨i,m,hl,Y⟩:=aC M c1 g1.2;have Y:=pY Y;simp only[b3] at Y;obtain rfl:xs=#[.pointer<|some ⟨i,0,none⟩]:=by apply yX.1;rw[NS,Y]
  have C:=h.ok.boxes b' bx M;unfold ca at C;rw[c2] at C;obtain⟨JY,CZ,D,tid,fr,a1,a2,a3,L,a5⟩:=C;rw[hl] at a1;obtain⟨rfl,rfl⟩:=b8 (aq a1);have Q:tid=T:=by
   rcases L with L|L
   .rw[X] at L;exact absurd L (Gs c6)
   .rw[L,X]
  subst Q;rw[J] at a5;obtain⟨PE,Rp,e1,e2,e3⟩:=a5;obtain⟨Qh,OZ,e4,e5,e6⟩:=e3;obtain⟨⟨p,rfl,Ss⟩,Qi⟩:=e2;obtain⟨q,hq⟩:∃q,Qh=[q]:=by
   cases u<;>first|(cases c9;done)|skip
   obtain⟨⟨q,hq,_⟩,_⟩:=e5;exact⟨q,hq⟩
  subst hq;obtain rfl:OZ=[]:=e6;have S:D=#[p,q]:=by apply yX.1;rw[e1,e4];rfl
  subst S;obtain⟨Su,Sv,j1,j2⟩:=aC M c1 Qi;rw[hl] at j1;obtain⟨rfl,rfl⟩:=b8 (aq j1);have j2:p=.pointer none\/p=.pointer (some ⟨i,0,none⟩):=j2.imp pY pY;refine⟨hs.1,(hs.2 w i p q fr a2 (a3 0<|by simp) j2).mono λe w' F=>?_⟩;obtain⟨rfl,F⟩:=F;refine⟨_,rfl,?_⟩;have O0:∀{bc:Gh} {cm:Nat->Option aS} {w':World},bw bc cm w' (.pG .nl) .val [.tuple #[]]:=λ{_ _ _}=>⟨#[],rfl,rfl⟩;rcases F with rfl|rfl
  .refine hK γ _ _ (h.mP hd O0) ?_;cases d<;>exact Ext.refl _ _ _ _
  .have G:({ bx with val:=bx.val }:aS)=bx:=by cases bx;rfl
   obtain⟨m1,Z⟩:=h.ok.write M c4 hl a2 (cur':=#[.pointer<|some ⟨i,0,none⟩,q]) (v:=bx.val) (by simp) (by rw[G])
    (λw' cm hx hg=>by
     rw[G];unfold ca;rw[c2];refine⟨i,m,_,tid,fr,hl,hg,λo ho=>a3 o (by simpa using ho),L,?_⟩;rw[J];refine⟨[.pointer<|some ⟨i,0,none⟩],[q],rfl,?_,[q],[],rfl,e5.ext hx,rfl⟩;have Sw:gC cm b' v' λ_=>∃i m,γ.loc b'=some (i,m):=by
      obtain⟨Qj,k1,k2,k3⟩:=Qi;obtain⟨j9,q1,q2,H⟩:=hx.boxes b' Qj k1;exact⟨j9,q1,iA k2 q2,λ_=>⟨i,m,hl⟩⟩
     obtain⟨j9,q1,q2,H⟩:=Sw;exact⟨⟨_,rfl,rfl⟩,j9,q1,q2,λ_=>⟨i,m,hl,.inr rfl⟩⟩)
   rw[G,C8 M] at m1 Z;refine hK γ _ _ (h.aA Z m1 hd O0) ?_;cases d<;>exact Z
 .rename_i T E b au;split at r
  case h_2=>cases r
  rename_i bx M;split at r
  case h_2=>cases r
  rename_i b' v' hh Ri un J;obtain⟨n,t⟩:=ak r;simp only[cA,fO] at n;obtain⟨⟨⟨⟨c1,c2⟩,X⟩,c6⟩,c7⟩:=n;have c1:=cG c1;have X:=cG X;have c6:0<T:=by simpa using c6
  split at t
  case h_2=>cases t
  rename_i hx PF;obtain⟨n,J0⟩:=ak t;simp only[cA,fO] at n;obtain⟨⟨⟨⟨d1,d2⟩,d3⟩,d4⟩,d5⟩:=n;have d1:=cG d1;have d4:=cG d4;have d5:0<E:=by simpa using d5
  split at J0
  case h_2=>cases J0
  rename_i l Qk;change List Int at l;obtain rfl:=aq J0;obtain⟨val,O,NS,g1,g2⟩:=hv.cons;have z:O=[]:=by have:=g2.1;simpa using this
  subst z;obtain⟨i,m,hl,Y⟩:=aC M c1 g1.2;have Y:=pY Y;simp only[b3] at Y;obtain rfl:xs=#[.pointer<|some ⟨i,0,none⟩]:=by apply yX.1;rw[NS,Y]
  have C:=h.ok.boxes b bx M;unfold ca at C;rw[c2] at C;obtain⟨JY,CZ,D,tid,fr,a1,a2,a3,L,a5⟩:=C;rw[hl] at a1;obtain⟨rfl,rfl⟩:=b8 (aq a1);have Q:tid=T:=by
   rcases L with L|L
   .rw[X] at L;exact absurd L (Gs c6)
   .rw[L,X]
  subst Q;rw[J] at a5;obtain⟨PE,Rp,e1,e2,e3⟩:=a5;obtain⟨Qh,OZ,e4,e5,e6⟩:=e3;obtain⟨⟨p,rfl,Ss⟩,Qi⟩:=e2;obtain⟨⟨q,rfl,TS⟩,Sx⟩:=e5;obtain rfl:OZ=[]:=e6;have S:D=#[p,q]:=by apply yX.1;rw[e1,e4];rfl
  subst S;obtain⟨e',n',k1,k2,k3⟩:=aC PF d1 Sx;rw[aS.ck d2 Qk] at k2;obtain⟨rfl,rfl⟩:=b8 (aq k2);have Ql:=h.ok.boxes hh hx PF;obtain⟨e3,l3,q1,q2,H⟩:=Ql.Hq d2 (λ_ q=>by rw[Qk] at q;cases q);rw[Qk] at q1;cases q1;have hlen:(aH l).length=l.length:=by simp[aH]
  let Nn:aS:={ hx with val:=.data (.slice<|.int .u8) ([]:List Int),au:=hx.au+1 }
  have key:∃og:Option Nat,(∀k,og=some k->∃c,γ.loc hh=some (k,c))/\l.length<=maxLen /\
    ((og=none/\q=.slice none 0 0/\aH l=[])\/∃(g m:Nat) (D:Array Value) (Sy:Nat×Nat),og=some g/\q=.slice (some ⟨g,0,none⟩) (aH l).length m/\w.heap[g]?=some (.cells D E Sy)/\(aH l).length<=m/\m<=maxLen/\D.size=m/\∀(j:Nat) (x:UInt8),(aH l)[j]?=some x->D[j]?=some (Value.int .u8 x.toNat)):=by
   rcases k3 with ⟨k3,k4⟩|⟨g,U,k3,k4⟩
   .rcases H with ⟨_,H⟩|⟨_,_,_,_,_,H,_⟩
    .subst H;exact⟨none,(λk W=>by cases W),jO _,.inl ⟨rfl,pY k4,rfl⟩⟩
    .rw[k3] at H;cases H
   .rcases H with ⟨H,_⟩|⟨g',Rq,V,Qm,Sz,H,q4,q5,q6,q7,q8,q9,SA⟩
    .rw[k3] at H;cases H
    .rw[k3] at H;obtain⟨rfl,rfl⟩:=b8 (aq H);have SB:Qm=E:=by
      rcases q6 with q6|q6
      .rw[d4] at q6;exact absurd q6 (Gs d5)
      .rw[q6,d4]
     subst SB;have O1:(Ty.int IntKind.u8).size=1:=rfl;have SC:l.length<=U:=q7;refine⟨some g,λk W=>⟨U,by rw[k3,aq W]⟩,iA SC q8,.inr ⟨g,U,V,Sz,rfl,?_,q4,by omega,q8,by rw[q9,O1,wI],λj x hj=>?_⟩⟩
     .rw[hlen];exact pY k4
     .simp only[aH,sH,pS] at hj;obtain⟨y,hy,rfl⟩:=hj;obtain⟨r1,r2,r3⟩:=SA j y hy;rw[O1,wI] at r1;have O2:(IntKind.u8).min=0:=by decide
      have NP:(IntKind.u8).max=255:=by decide
      have TT:0<=y:=by have:=r2;rw[O2] at this;exact this
      have TU:y<=255:=by have:=r3;rw[NP] at this;exact this
      have O3:V.toList[j]?=some (.int .u8 y):=by
       have:((V.toList.drop j).take 1)[0]?=some (.int .u8 y):=by rw[r1];rfl
       simpa [kK,pT] using this
      have PZ:((UInt8.ofNat y.toNat).toNat:Int)=y:=by
       rw[UInt8.toNat_ofNat'];have:y.toNat<256:=by omega
       rw[Nat.mod_eq_of_lt<|by simpa using this];omega
      rw[PZ];simpa using O3
  obtain⟨og,Rr,OO,W⟩:=key;refine⟨hs.1,(hs.2 w i p q fr (aH l) og a2 W).mono λe w' F=>?_⟩;obtain⟨rfl,F⟩:=F;refine⟨_,rfl,?_⟩;have Qn:lg B w w':=⟨F.os,F.tape,F.output,F.size,λk W=>by
   rcases ue k w.heap.size with Qf|Qo
   .refine F.block k Qf λe=>W ?_;obtain⟨c,hc⟩:=Rr k e;exact(h.ok.fresh hh k c (by rw[PF];simp) hc).1
   .exact absurd (.inl<|iA h.ok.base Qo) W⟩
  have Qp:ca (aI γ hh none) (bq σ.mem hh Nn) w' hh Nn:=by
   unfold ca;rw[show Nn.buf=true from d2];exact .inr ⟨.int .u8,[],rfl,q2,.inl ⟨by simp[aI],rfl⟩⟩
  obtain⟨m1,Z⟩:=h.ok.drop (bx:=Nn) PF (Gm _) Qn (λk W hn=>F.block k W λe=>by obtain⟨c,hc⟩:=Rr k e;exact hn c hc) F.cell Qp;refine hK (aI γ hh none) _ w' (h.aA Z m1 hd (v:=.data .str (aH l)) (val:=.string ⟨(aH l).toArray⟩) ?_) ?_
  .exact⟨[.string ⟨(aH l).toArray⟩],⟨rfl,by rw[hlen];exact OO⟩,rfl⟩
  .cases d<;>exact Z
 .rename_i ps A R spec;split at r
  case h_2=>cases r
  rename_i x hx;obtain⟨y,hy,t⟩:=bo r;obtain rfl:=aq t;refine⟨hs.1,(hs.2.2 (λb _=>b<w.heap.size) w xs x y (λb o M=>M) (C9 h.ok (λb o hi=>h.ok.lX b o hi) (λb o _ M=>M) hv hx) hy).mono λe w' F=>?_⟩;obtain⟨v,I',h1,h2,h6⟩:=F;refine⟨v,h1,?_⟩;obtain⟨m1,Z⟩:=h.ok.OS (I':=γ.I) h2 (λ_ _ hi=>hi) (λb o hi=>rp (h.ok.lX b o hi) h2.size) (λb o hi hn=>absurd hi hn);refine hK γ _ w' (h.aA Z m1 hd<|h6.flat hs.2.1) ?_;cases d<;>exact Z
 .cases r
theorem Bi(z:jy P B.G cx)(Z:nE P B.G inl){f:Nat}{j:List ax}{H:Array Value}(h:b6 B N γ σ a w)(hd:∀k,d=some k->k<N)(hv:gk γ σ.mem w j H.toList)
  (i:(nS cx inl d f j σ).run=some aB) {K:Act->World->Prop} (X:qo B N γ σ a w d aB K) :
  (∃J A,P.funcs[f]?=some J/\(J.name == "runtime.NumGoroutine")=false/\J.body=some A)/\Calls P f H w λe w'=>∃v,e=.returned v/\K (a.put d v) w':=by
 unfold nS at i;split at i
 .rename_i c Rt;have L:=z.Cr f c Rt;refine⟨L.body,?_⟩;split at i
  .rename_i O;split at i
   .rename_i x hx;obtain⟨y,hy,m⟩:=bo i;obtain rfl:=aq m;have R:=zb (I':=λb o=>b<w.heap.size) h.ok (λb o q=>h.ok.lX b o q) (λb o _ C=>C) hv hx;refine(L.calls (λb o=>b<w.heap.size) w H x y (λb o C=>C) h.ok.A2 R hy).mono λe w' S=>?_;obtain⟨v,I',T,E,W,Y,h5,h6⟩:=S;refine⟨v,T,?_⟩;obtain⟨m1,F⟩:=h.ok.OS (I':=γ.I) E (λ_ _ q=>q) (λb o q=>rp (h.ok.lX b o q) E.size) (λb o q hn=>absurd q hn);refine X γ _ w' (h.aA F m1 hd<|h6.flat O) ?_;cases d<;>exact F
   .exact absurd i (by intro k;cases k)
  .split at i
   .rename_i x aV hx;obtain⟨y,hy,m⟩:=bo i;obtain rfl:=aq m;obtain⟨J6,s1,s2,s3⟩:=lj h hv hx;refine(L.calls J6.I w H x y (λb o q=>s1.ok.lX b o q) s1.ok.A2 s3 hy).mono λe w' S=>?_;obtain⟨v,I',T,E,W,Y,h5,h6⟩:=S;refine⟨v,T,?_⟩;obtain⟨m1,F⟩:=s1.ok.OS (I':=I') E W Y h5;refine X ⟨I',J6.loc⟩ _ w' (s1.aA F m1 hd<|h6.rep λ_ _ q=>q) ?_;cases d<;>exact s2.trans F
   .exact absurd i (by intro k;cases k)
 .rename_i Rt;have l:((inl f j σ).bind λr=>.ret (r.2.aA d r.1):Tree St).run=some aB->(∃J A,P.funcs[f]?=some J/\(J.name == "runtime.NumGoroutine")=false/\J.body=some A)/\Calls P f H w λe w'=>∃v,e=.returned v/\K (a.put d v) w':=by
   intro i;obtain⟨r,P5,m⟩:=bind_some i;obtain rfl:=aq m;obtain⟨v0,rK⟩:=r;obtain⟨C,NK,D⟩:=Z B γ σ rK w f j H v0 rfl h.ok hv P5;refine⟨C,D.mono λe w' S=>?_⟩;obtain⟨v,bc,T,E,W,Y⟩:=S;refine⟨v,T,?_⟩;have NT:rK={ slots:=σ.slots,mem:=rK.mem }:=by cases rK;simp only at NK;subst NK;rfl
   rw[NT] at X;refine X bc _ w' (h.aA W E hd Y) ?_;cases d<;>exact W
  split at i
  .rename_i s SD;exact zd (z.yT f s SD) h hd hv i X
  split at i
  .rename_i c SE;split at i
   .rename_i x u N M hx;obtain⟨t,i⟩:=ak i;have t:=uC.1 t;obtain⟨y,hy,m⟩:=bo i;obtain rfl:=aq m;have L:=z.rX _ c SE;rw[show Ho f j / 2=f by unfold Ho;split<;>omega] at L;obtain⟨V,iy,g1,g2,g3⟩:=zc hv hx;obtain⟨bs,k1,k2,k3⟩:=Ab h.ok g2 g3;have hlen:=uD g3;have hold:∀blk∈bL bs (M.map λp=>γ.loc p.1),∃b k,(∃bx,σ.mem b=some bx)/\γ.loc b=some (blk,k):=λblk C=>Ad k1 k3 C;refine⟨L.body,(L.calls γ.I w H iy bs _ x u y (λb o q=>h.ok.lX b o q) h.ok.A2 (λb Q g C=>by
     obtain⟨n,k,⟨bx,j1⟩,j2⟩:=hold b C;exact(h.ok.bD b Q g).1 (h.ok.fresh n b k (by rw[j1];simp) j2).1) g1 k2 (vc h.ok k1 k3 t) hy).mono λe w' S=>?_⟩
    obtain⟨v,I',OU,T,E,W,Y,h5,h6,h7,h8,h9⟩:=S;refine⟨v,T,?_⟩;obtain⟨m1,F⟩:=h.ok.refs g3 t k1 k3 E W Y h5 h7 h8 h9;have hs:gG c.U y.2 N M σ={ slots:=σ.slots,mem:=(gG c.U y.2 N M σ).mem }:=rfl;refine X ⟨I',eT M OU γ.loc⟩ _ w' (by rw[hs];exact h.aA F m1 hd (h6.rep λ_ _ q=>q)) ?_;cases d<;>exact F
   .exact l i
  .exact l i
theorem aO.EN{l:Nat->Option aS}{M:World}(h:aO B γ l w){b:Nat}{j9:aS}{e:Ty}{l':List e.den}{L:Option (Nat×Nat)}{X:Nat->Prop}{W:Nat->Nat->Prop}{v:Value}
  (Y:∀k,X k->∃g c,l b=some g/\g.ro=false/\γ.loc b=some (k,c)) (t:Be w γ.I X M W) (G:qn M W e l' L v) (Q:∀f c,L=some (f,c)->X f\/w.heap.size<=f)
  (H:∀g,l b=some g->g.au<j9.au\/(g.au=j9.au/\L=γ.loc b/\j9.buf=g.buf/\j9.row=g.row)) (J7:j9.val=.data (.slice e) l') (R:j9.buf=true) (S:j9.tid=0) (he:0<e.size) :
  let bc:Gh:=⟨W,λi=>if i=b then L else γ.loc i⟩
  aO B bc (bq l b j9) M/\Ext B γ l w bc (bq l b j9) M:=by
 intro bc;have p:∀k,k<w.heap.size->¬X k->M.heap[k]?=w.heap[k]?:=λk A T=>t.below.block k λq=>by
  rcases q with q|q
  .have:w.heap.size<=k:=q;omega
  .exact T q
 have O:∀k,X k->∀o,¬γ.I k o:=λk A o z=>by
  obtain⟨g,c,m,s,Z⟩:=Y k A;have:=(h.sep b g k c o m Z z).1;rw[s] at this;cases this
 have U:∀k,¬B.has k->k<w.heap.size:=λk A=>Gl λq=>A (.inl<|iA h.base q);have u:∀k,X k->B.has k/\k<w.heap.size:=λk A=>by
  obtain⟨g,c,m,s,Z⟩:=Y k A;exact h.fresh b k c (by rw[m];simp) Z
 have hx:Ext B γ l w bc (bq l b j9) M :=
  { below:=⟨t.below.os,t.below.tape,t.below.output,t.below.size,λk A=>p k (U k A) λT=>A (u k T).1⟩
    I:=t.held
    mo:=λb o x=>by
     by_cases z:γ.I b o
     .exact .inl z
     .exact .inr (.inl<|iA h.base<|t.mo b o x z)
    cells:=λb o z=>dU (p b (h.lX b o z) λT=>O b T o z)
    boxes:=λc cx n=>by
     by_cases j:c=b
     .subst j;refine⟨j9,aJ _ _,?_,λC=>?_⟩
      .rcases H cx n with q|q
       .exact Jz q
       .exact yZ q.1
      .rcases H cx n with q|q
       .omega
       .exact⟨by simp[bc,q.2.1],q.2.2⟩
     .exact⟨cx,by rw[az _ j];exact n,cU _,λ_=>⟨by simp[bc,j],rfl,rfl⟩⟩ }
 have J:∀f c,L=some (f,c)->f<M.heap.size/\∀o,¬W f o:=λf c D=>by
  rcases G with ⟨q,_⟩|⟨K,cap,cur,tid,fr,q1,q2,q3,q4,q5,q6,q7,q8,q9⟩
  .rw[q] at D;cases D
  .rw[q1] at D;obtain⟨rfl,rfl⟩:=b8 (aq D);exact⟨(oc.1 q3).1,q8⟩
 have y:∀{c d:Nat},c≠b->bq l b j9 c≠none->l c≠none:=λn hm=>by rwa [az _ n] at hm
 have r:∀{d f k c:Nat},d≠b->l d≠none->L=some (f,k)->γ.loc d=some (f,c)->False:=λ{d f k c} hd hm D s=>by
  rcases Q f k D with E|E
  .obtain⟨g,c0,j1,j2,j3⟩:=Y f E;exact hd (h.inj d b f c c0 hm (by rw[j1];simp) s j3)
  .have:=(h.fresh d f c hm s).2;omega
 refine⟨?_,hx⟩;exact
  { bD:=h.sX hx
    base:=iA h.base t.below.size
    boxes:=λc cx n=>by
     by_cases j:c=b
     .subst j;rw[aJ] at n;obtain rfl:=aq n;unfold ca;rw[R];refine .inr ⟨e,l',J7,he,?_⟩;rcases G with ⟨q1,q2,q3⟩|⟨K,cap,cur,tid,fr,q1,q2,q3,q4,q5,q6,q7,q8,q9⟩
      .exact .inl ⟨by simp[bc,q1],q2⟩
      .exact .inr ⟨K,cap,cur,tid,fr,by simp[bc,q1],q3,q4,.inl S,q5,q6,q7,q9⟩
     .rw[az _ j] at n;refine(h.boxes c cx n).keep hx (by simp[bc,j]) λf k D=>p f (h.fresh c f k (by rw[n];simp) D).2 λE=>?_;obtain⟨g,c0,j1,j2,j3⟩:=Y f E;exact j (h.inj c b f k c0 (by rw[n];simp) (by rw[j1];simp) D j3)
    inj:=λc d f k k' n hd m s=>by
     by_cases j:c=b
     .by_cases C:d=b
      .rw[j,C]
      .exfalso;simp only[bc,bH j] at m;simp only[bc,bp C] at s;exact r C (y (d:=0) C hd) m s
     .by_cases C:d=b
      .exfalso;simp only[bc,bp j] at m;simp only[bc,bH C] at s;exact r j (y (d:=0) j n) s m
      .simp only[bc,bp j] at m;simp only[bc,bp C] at s;exact h.inj c d f k k' (y (d:=0) j n) (y (d:=0) C hd) m s
    fresh:=λc f k n m=>by
     by_cases j:c=b
     .simp only[bc,bH j] at m;refine⟨?_,(J f k m).1⟩;rcases Q f k m with q|q
      .exact(u f q).1
      .exact .inl (iA h.base q)
     .simp only[bc,bp j] at m;have:=h.fresh c f k (y (d:=0) j n) m;exact⟨this.1,rp this.2 t.below.size⟩
    lX:=t.lX
    sep:=λc cx f k F n m z=>by
     by_cases j:c=b
     .simp only[bc,bH j] at m;exact absurd z ((J f k m).2 F)
     .simp only[bc,bp j] at m;rw[az _ j] at n;by_cases V:γ.I f F
      .exact h.sep c cx f k F n m V
      .have Z:=t.mo f F z V;have s:=(h.fresh c f k (by rw[n];simp) m).2;omega }
theorem qn.rep{I:Nat->Nat->Prop}{j:Nat->Option (Nat×Nat)}{k:Nat->Option aS}{w:World}{e:Ty}{l:List e.den}{L:Option (Nat×Nat)}{v:Value}{b m:Nat}{bx:aS}(h:qn w I e l L v)
  (f:j b=L) (s:k b=some bx) (g:bx.au=m) (c:bx.buf=true) (i:bx.val=.data (.slice e) l):bw ⟨I,j⟩ k w (.whole b m) .val [v]:=by
 rcases h with ⟨o,p,q⟩|⟨n,r,t,tid,u,o,p,q,x,y,z,A,C,D⟩
 .exact⟨⟨v,rfl,by rw[q];rfl⟩,bN s g ⟨e,l.length,c,aS.ck c i,.inl ⟨by rw[<-o];exact f,by rw[q]⟩⟩⟩
 .exact⟨⟨v,rfl,by rw[p];rfl⟩,bN s g ⟨e,l.length,c,aS.ck c i,.inr ⟨n,r,by rw[<-o];exact f,by rw[p]⟩⟩⟩
theorem J8{j:Nat->Option aS}(h:aO B γ j w){b m:Nat}{k:aS}{e:Ty}{l:List e.den}{v:Value}(y:j b=some k)(p:k.au=m)(g:k.buf=true)(z:k.ro=false)(f:k.val=.data (.slice e) l)
  (H:bw γ j w (.whole b m) .val [v]):qn w γ.I e l (γ.loc b) v/\0<e.size:=by
 obtain⟨S,n,T,F,c⟩:=aC y p H.2;rw[aS.ck g f] at F;obtain⟨rfl,rfl⟩:=b8 (aq F);have A:=h.boxes b k y;obtain⟨U,V,G,J,i⟩:=A.Hq g (λ_ q=>by rw[f] at q;cases q);rw[f] at G;cases G;refine⟨?_,J⟩;rcases i with ⟨i,C⟩|⟨r,s,D,tid,K,i,C,L,W,M,O,Q,E⟩
 .rcases c with ⟨c,t⟩|⟨u,x,c,t⟩
  .exact .inl ⟨c,C,pY t⟩
  .rw[i] at c;cases c
 .rcases c with ⟨c,t⟩|⟨u,x,c,t⟩
  .rw[i] at c;cases c
  .rw[i] at c;obtain⟨rfl,rfl⟩:=b8 (aq c);refine .inr ⟨r,s,D,tid,K,i,pY t,C,L,M,O,Q,λo R=>?_,E⟩;have:=(h.sep b k r s o y i R).1;rw[z] at this;cases this
theorem lF{e:Ty}{v:ax}{b j:Nat}{k:aS}{l:List e.den}(h:pa e σ v=some (b,j,k,l)):σ.mem b=some k/\k.au=j/\k.buf=true/\k.lk=false/\k.ro=false/\k.tid=0 /\
  ∃m:List e.den,k.val=.data (.slice e) m/\((v=.whole b j/\l=m)\/∃n,v=.part b j 0 n/\l=sub m 0 n):=by
 unfold pa at h;split at h
 .rename_i s g;split at h
  .rename_i c o;cases f:(Nat.beq c.au g&&c.buf&&!c.lk&&!c.ro&&Nat.beq c.tid 0) with
   | false=>rw[f] at h;cases h
   | true =>
     rw[f] at h;simp only[cA,fO] at f;simp only[cd] at h;split at h
     .rename_i u m i;split at h
      .rename_i t p;obtain⟨q,r⟩:=gh p;subst q;subst r;cases h;exact⟨o,cG f.1.1.1.1,f.1.1.1.2,f.1.1.2,f.1.2,cG f.2,_,i,.inl ⟨rfl,rfl⟩⟩
      .cases h
     .cases h
  .cases h
 .rename_i s g x n;split at h
  .rename_i c o;cases f:(Nat.beq c.au g&&c.buf&&!c.lk&&!c.ro&&Nat.beq c.tid 0&&decide (x=0)) with
   | false=>rw[f] at h;cases h
   | true =>
     rw[f] at h;simp only[cA,fO,yV] at f;simp only[cd] at h;split at h
     .rename_i u m i;split at h
      .rename_i t p;obtain⟨q,r⟩:=gh p;subst q;subst r;cases h;have y:=f.2;subst y;exact⟨o,cG f.1.1.1.1.1,f.1.1.1.1.2,f.1.1.1.2,f.1.1.2,cG f.1.2,_,i,.inr ⟨n,rfl,rfl⟩⟩
      .cases h
     .cases h
  .cases h
 .cases h
theorem EO{p:Nat->Option aS}(h:aO B γ p w){b u:Nat}{r:aS}{e:Ty}{l:List e.den}{n:Int}{v:Value}(D:p b=some r)(y:r.au=u)(f:r.buf=true)(E:r.ro=false)(g:r.val=.data (.slice e) l)
  (Q:bw γ p w (.part b u 0 n) .val [v]):qn w γ.I e (sub l 0 n) (γ.loc b) v/\0<e.size:=by
 obtain⟨Y,k,J,Z,k4,k5,K,m,A,k7,k8,R,k9⟩:=aC D y Q.2;rw[aS.ck f g] at J;obtain⟨rfl,rfl⟩:=b8 (aq J);have F:=h.boxes b r D;obtain⟨e3,l3,L,S,c⟩:=F.Hq f (λ_ q=>by rw[g] at q;cases q);rw[g] at L;cases L;refine⟨?_,S⟩;obtain A:=pY A;have hlen:(sub l 0 n).length=n.toNat:=by
  have:n.toNat<=l.length:=by omega
  simp only[sub,fj,mJ];omega
 rcases R.2 rfl f with ⟨s,rfl,rfl⟩|⟨t,s,rfl⟩
 .rcases c with ⟨c,C⟩|⟨t,G,z,tid,M,c,_⟩
  .subst C;have:n.toNat=0:=by omega
   exact .inl ⟨s,by simp[sub],by rw[A,this]⟩
  .rw[s] at c;cases c
 .rcases c with ⟨c,C⟩|⟨O,G,z,tid,M,c,C,T,q6,q7,U,V,H⟩
  .rw[s] at c;cases c
  .rw[s] at c;obtain⟨rfl,rfl⟩:=b8 (aq c);refine .inr ⟨t,m,z,tid,M,s,by rw[hlen];exact A,C,T,by rw[hlen];omega,U,V,λo W=>?_,λi x X=>H i x ?_⟩
   .have:=(h.sep b r t m o D s W).1;rw[E] at this;cases this
   .have j:((l.drop (0:Int).toNat).take n.toNat)[i]?=some x:=X;rw[kK] at j;split at j
    .simpa using j
    .cases j
theorem Ae{e:Ty}{v:ax}{b m:Nat}{s:aS}{l:List e.den}{j:Value}(o:aO B γ σ.mem w)(h:pa e σ v=some (b,m,s,l))(p:bw γ σ.mem w v .val [j]):qn w γ.I e l (γ.loc b) j/\0<e.size:=by
 obtain⟨q,c,f,t,k,r,u,g,i⟩:=lF h;rcases i with ⟨rfl,rfl⟩|⟨n,rfl,rfl⟩
 .exact J8 o q c f k g p
 .exact EO o q c f k g p
theorem fw{f:Nat}{s:IW}(h:kR cx bf d f=some s):find cx.yT f=some s:=by
 unfold kR at h;split at h
 .rename_i e b;split at h
  .obtain rfl:=aq h;exact b
  .cases h
 .rename_i b;obtain rfl:=aq h;exact b
 .rename_i b;obtain rfl:=aq h;exact b
 .rename_i b;obtain rfl:=aq h;exact b
 .cases h
theorem vI{f:Nat}{e:Ty}{i:List ax}{s:Array Value}(G:ko P f (.clone e))(h:b6 B N γ σ a w)(M:∀k,d=some k->k<N)(O:gk γ σ.mem w i s.toList)
  (g:(hW nb e d i σ).run=some aB) {K:Act->World->Prop} (Q:qo B N γ σ a w d aB K) :
  (∃t m,P.funcs[f]?=some t/\(t.name == "runtime.NumGoroutine")=false/\t.body=some m)/\Calls P f s w λe w'=>∃v,e=.returned v/\K (a.put d v) w':=by
 unfold hW at g;split at g
 case h_2=>cases g
 rename_i k x;split at g
 case h_2=>cases g
 rename_i l aV R;change List e.den at l;obtain⟨u,g⟩:=ak g;have u:0<e.size:=by simpa using u
 obtain⟨n,g⟩:=bM g;obtain⟨au,p,y⟩:=bK g;obtain rfl:=aq y;obtain⟨S,r,z,T,U⟩:=O.cons;have j:r=[]:=by have:=U.1;simpa using this
 subst j;obtain⟨A,C,V,W,X,D⟩:=iH h T R;have D:=pY D;refine⟨G.1,(G.2 A.I w s l (λb o Y=>C.ok.lX b o Y) ⟨W,[],by rw[z,D],X,rfl⟩ n).mono λq w' Z=>?_⟩;obtain⟨v,I',L,rfl,h1,H,h3⟩:=Z;refine⟨v,rfl,?_⟩;obtain⟨m1,J⟩:=C.ok.EN (b:=nb+k) (j9:={ val:=.data (.slice e) l,tid:=0,buf:=true,ro:=false,lk:=false,au }) (λ_ hf=>hf.elim) h1 H (λE c hl=>.inr (h3 E c hl))
  (λF h0=>.inl (p F h0)) rfl rfl rfl u
 exact Q _ _ w' (C.step J m1 (M k rfl)<|H.rep (by simp) (aJ _ _) rfl rfl rfl) (V.trans J)
theorem ze{f:Nat}{e A:Ty}{t:Bool}{p:List e.den->A.den->Option (List e.den)}{r:List ax}{T:Array Value}(hs:ko P f (.own e A t p))(h:b6 B N γ σ a w)(hd:∀k,d=some k->k<N)(hv:gk γ σ.mem w r T.toList)
  (i:(ld e A t p d r σ).run=some aB) {K:Act->World->Prop} (hK:qo B N γ σ a w d aB K) :
  (∃U D,P.funcs[f]?=some U/\(U.name == "runtime.NumGoroutine")=false/\U.body=some D)/\Calls P f T w λe w'=>∃v,e=.returned v/\K (a.put d v) w':=by
 unfold ld at i;split at i
 case h_2=>cases i
 rename_i v0 vs;split at i
 case h_2=>cases i
 rename_i x aV hg;split at i
 case h_2=>cases i
 rename_i b V E l F;obtain⟨G,u,i⟩:=bo i;obtain⟨W,H,g,IX,X,s,l0,J,y⟩:=lF F;obtain⟨Y,L,Z,g1,g2⟩:=hv.cons;obtain⟨j,C,s2,z⟩:=lj h g2 hg;obtain⟨M,he⟩:=Ae C.ok F (g1.ext s2);refine⟨hs.1,(hs.2 j.I w T Y L l G (j.loc b) x (λb o hi=>C.ok.lX b o hi) Z M z u).mono λq w' hw=>?_⟩;obtain⟨I',h1,h2⟩:=hw;have hX:∀k,(∃c,j.loc b=some (k,c))->∃m c,aV.mem b=some m/\m.ro=false/\j.loc b=some (k,c):=λk ⟨c,hc⟩=>⟨E,c,W,X,hc⟩;cases t with
 | true =>
   cases d with
   | none=>cases i
   | some k =>
     obtain rfl:=aq i;obtain⟨v',L',rfl,S,h4⟩:=h2;refine⟨v',rfl,?_⟩;obtain⟨m1,O⟩:=C.ok.EN (b:=b) (j9:={ E with val:=.data (.slice e) G,au:=V+1 }) hX h1 S h4 (λm Q=>by
      rw[W] at Q;obtain rfl:=aq Q;exact .inl (by simp[H])) rfl g s he
     exact hK _ _ w' (C.step O m1 (hd k rfl)<|S.rep (by simp) (aJ _ _) rfl g rfl) (s2.trans O)
 | false =>
   have SF:v8 v0=true/\aB=(aV.bI b { E with val:=.data (.slice e) G }).aA d (.pG .nl):=by
    cases d with
    | none=>obtain⟨q1,q2⟩:=ak i;exact⟨q1,(aq q2).symm⟩
    | some k=>obtain⟨q1,q2⟩:=ak i;exact⟨q1,(aq q2).symm⟩
   obtain⟨SG,rfl⟩:=SF;obtain rfl:l=l0:=by
    rcases y with ⟨_,q⟩|⟨n,rfl,_⟩
    .exact q
    .cases SG
   obtain⟨rfl,R,S⟩:=h2;refine⟨_,rfl,?_⟩;obtain⟨m1,O⟩:=C.ok.EN (b:=b) (j9:={ E with val:=.data (.slice e) G }) hX h1 S (λblk c hl=>.inl ⟨c,hl⟩) (λm Q=>by
    rw[W] at Q;obtain rfl:=aq Q;exact .inr ⟨rfl,rfl,rfl,by rw[aS.ck g J,aS.ck (bx:={ E with val:=.data (.slice e) G }) g rfl,R]⟩) rfl g s he
   refine hK _ _ w' (C.aA O m1 hd (v:=.pG .nl) (val:=.tuple #[]) ⟨#[],rfl,rfl⟩) ?_;cases d<;>exact s2.trans O
theorem vJ{f g:Nat}{c:List ax}{t:Array Value}(I:ko P f (.p7 g))(h:b6 B N γ σ a w)(J:∀k,d=some k->k<N)(L:gk γ σ.mem w c t.toList)
  (j:(hY nb g d c σ).run=some aB) {K:Act->World->Prop} (M:qo B N γ σ a w d aB K) :
  (∃x o,P.funcs[f]?=some x/\(x.name == "runtime.NumGoroutine")=false/\x.body=some o)/\Calls P f t w λe w'=>∃v,e=.returned v/\K (a.put d v) w':=by
 unfold hY at j;split at j
 .cases j
 .cases j
 .rename_i k v y z;obtain⟨A,j⟩:=ak j;obtain⟨C,p,D⟩:=bK j;obtain rfl:=aq D;obtain⟨l,r,E,O,Q⟩:=L.cons;have m:r=[]:=by have:=Q.1;simpa using this
  subst m;obtain⟨R,T,n⟩:=I;obtain⟨m1,F⟩:=h.ok.newVar (b:=nb+k) (v:=v) (tid:=0) p (cs:=l.cells) T (.inl rfl) (O.fu (λu e=>z u e) λe=>absurd e y);have s:t=#[l]:=by apply yX.1;rw[E]
  rw[s];refine⟨R,(n w l).mono λq w' S=>?_⟩;obtain⟨rfl,rfl⟩:=S;refine⟨_,rfl,M _ _ _ (h.step F m1 (J k rfl) ?_) F⟩;refine⟨#[.pointer<|some ⟨w.heap.size,0,none⟩],by unfold oj;rw[A];rfl,rfl,λi b G H=>?_⟩;cases i with
  | zero =>
    obtain⟨rfl,rfl⟩:=b8 (aq H);exact bN (bx:={ val:=v,tid:=0,buf:=false,ro:=false,lk:=false,au:=C }) (aJ _ _) rfl ⟨w.heap.size,0,by simp[aI],rfl⟩
  | succ i=>cases H
 .cases j
theorem zf{f T:Nat}{y:List ax}{xs:Array Value}(hs:ko P f (.Ni T))(h:b6 B N γ σ a w)(hd:∀k,d=some k->k<N)(hv:gk γ σ.mem w y xs.toList)
  (i:(sP nb T d y σ).run=some aB) {K:Act->World->Prop} (hK:qo B N γ σ a w d aB K) :
  (∃fn Q,P.funcs[f]?=some fn/\(fn.name == "runtime.NumGoroutine")=false/\fn.body=some Q)/\Calls P f xs w λe w'=>∃v,e=.returned v/\K (a.put d v) w':=by
 unfold sP at i;split at i
 case h_2=>cases i
 rename_i k b au;split at i
 case h_2=>cases i
 rename_i bx hb;split at i
 case h_2=>cases i
 rename_i mb mv n u R;obtain⟨S,i⟩:=ak i;simp only[cA,fO] at S;obtain⟨⟨⟨c1,c2⟩,c3⟩,c4⟩:=S;have c1:=cG c1;have c3:=cG c3;have c4:0<T:=by simpa using c4
 split at i
 case h_2=>cases i
 rename_i mx U;obtain⟨V,i⟩:=ak i;simp only[cA] at V;have m1:=cG V.1;split at i
 case h_2=>cases i
 rename_i l W;obtain⟨t,z,OP⟩:=bK i;obtain⟨SH,D,J0⟩:=bK OP;obtain rfl:=aq J0;obtain⟨val,X,NS,g1,g2⟩:=hv.cons;have E:X=[]:=by have:=g2.1;simpa using this
 subst E;obtain⟨Y,cap,hl,g3⟩:=aC hb c1 g1.2;have g3:=pY g3;simp only[b3] at g3;obtain rfl:xs=#[.pointer<|some ⟨Y,0,none⟩]:=by apply yX.1;rw[NS,g3]
 have F:=h.ok.boxes b bx hb;unfold ca at F;rw[c2] at F;obtain⟨JY,CZ,cur,tid,fr,a1,a2,a3,J,a5⟩:=F;rw[hl] at a1;obtain⟨rfl,rfl⟩:=b8 (aq a1);have JZ:tid=T:=by
  rcases J with J|J
  .rw[c3] at J;exact absurd J (Gs c4)
  .rw[J,c3]
 subst tid;rw[R] at a5;obtain⟨PE,Rp,e1,e2,Qh,OZ,e3,⟨e4,SI⟩,e5⟩:=a5;have e5:OZ=[]:=e5;obtain⟨⟨j,rfl,_⟩,SJ⟩:=e2;subst e4 e5 e3;have Z:cur=#[j,.int .i64 n]:=by apply yX.1;rw[e1];rfl
 subst Z;obtain⟨q1,p⟩:=aC U m1 SJ;have r:=h.ok.boxes mb mx U;unfold ca at r;rw[q1] at r;rcases r with ⟨l',G,g⟩|⟨e',l',G,_⟩
 case inr=>rw[W] at G;cases G
 rw[W] at G;injection G with G
 subst G;obtain⟨hc,H⟩:=hs;have Qq:j=.map none\/∃m o l,j=.map (some m)/\w.heap[m]?=some o/\uY o l:=by
  rcases p with ⟨_,x⟩|⟨m,c,p,x⟩
  .exact .inl (pY x)
  .rcases g with ⟨g,_⟩|⟨m',c',o,g,M,z4⟩
   .rw[p] at g;cases g
   .rw[p] at g;obtain⟨rfl,rfl⟩:=b8 (aq g);exact .inr ⟨m,o,l,pY x,M,z4⟩
 refine⟨hc,(H w Y j n fr a2 Qq).mono λq w' hw=>?_⟩;obtain⟨w1,s,rfl,rfl,A,I⟩:=hw;have C:lg B w w1:=.of (A.mono h.ok.base);have hold:∀k,k<w.heap.size->w1.heap[k]?=w.heap[k]?:=λk hk=>A.block k hk;have key:∃L,aO B (aI γ ((nb+k)*1000+999) L) (bq σ.mem ((nb+k)*1000+999) { val:=.ju l,tid:=0,buf:=true,ro:=false,lk:=false,au:=t }) w1 /\
   Ext B γ σ.mem w (aI γ ((nb+k)*1000+999) L) (bq σ.mem ((nb+k)*1000+999) { val:=.ju l,tid:=0,buf:=true,ro:=false,lk:=false,au:=t }) w1 /\
   ((L=none/\s=.map none)\/∃m c,L=some (m,c)/\s=.map (some m)):=by
  rcases I with ⟨rfl,rfl⟩|⟨m,o,m',o',rfl,Qr,rfl,Qo,SK,SL⟩
  .have NQ:l=[]:=by
    rcases g with ⟨_,M⟩|⟨m',c',o,g,_⟩
    .exact M
    .rcases p with ⟨p,_⟩|⟨m,c,p,x⟩
     .rw[p] at g;cases g
     .have:=pY x;cases this
   subst NQ;obtain⟨k1,O⟩:=h.ok.Ht (b:=(nb+k)*1000+999) z C hold;exact⟨none,k1,O,.inl ⟨rfl,rfl⟩⟩
  .have SM:uY o l:=by
    rcases p with ⟨_,x⟩|⟨m2,c,p,x⟩
    .have:=pY x;cases this
    .have:=pY x;injection this with this
     injection this with this
     subst this;rcases g with ⟨g,_⟩|⟨m3,c',o2,g,M,z4⟩
     .rw[p] at g;cases g
     .rw[p] at g;obtain⟨rfl,rfl⟩:=b8 (aq g);rw[Qr] at M;obtain rfl:=aq M;exact z4
   obtain⟨k1,O⟩:=h.ok.JT (b:=(nb+k)*1000+999) z C hold Qo SK (SL l SM);exact⟨some (m',0),k1,O,.inr ⟨m',0,rfl,rfl⟩⟩
 obtain⟨L,k1,O,k3⟩:=key;have JX:bw (aI γ ((nb+k)*1000+999) L) (bq σ.mem ((nb+k)*1000+999) { val:=.ju l,tid:=0,buf:=true,ro:=false,lk:=false,au:=t }) w1
   (.mix (.kM ((nb+k)*1000+999) t)<|.mix (.data (.int .i64) n)<|.data .unit ()) .cells (#[s,.int .i64 n]:Array Value).toList:=by
  refine⟨[s],[.int .i64 n],rfl,?_,[.int .i64 n],[],rfl,⟨rfl,SI⟩,rfl⟩;rcases k3 with ⟨rfl,rfl⟩|⟨m,c,rfl,rfl⟩
  .exact⟨⟨_,rfl,rfl⟩,bN (aJ _ _) rfl ⟨rfl,.inl ⟨by simp[aI],rfl⟩⟩⟩
  .exact⟨⟨_,rfl,rfl⟩,bN (aJ _ _) rfl ⟨rfl,.inr ⟨m,c,by simp[aI],rfl⟩⟩⟩
 obtain⟨n1,n2⟩:=k1.newVar (b:=nb+k) (tid:=T) D (cs:=#[s,.int .i64 n]) T (.inr rfl) JX;exact⟨_,rfl,hK _ _ _ (h.step (O.trans n2) n1 (hd k rfl) pj) (O.trans n2)⟩
theorem rL(b:jy P B.G cx)(l:nE P B.G inl){f:Nat}{c:List ax}{xs:Array Value}(h:b6 B N γ σ a w)(m:∀k,d=some k->k<N)(n:gk γ σ.mem w c xs.toList)
  (i:(mn cx nb bf inl d f c σ).run=some aB) {K:Act->World->Prop} (o:qo B N γ σ a w d aB K) :
  (∃q p,P.funcs[f]?=some q/\(q.name == "runtime.NumGoroutine")=false/\q.body=some p)/\Calls P f xs w λe w'=>∃v,e=.returned v/\K (a.put d v) w':=by
 unfold mn at i;split at i
 .rename_i e j;exact vI (b.yT f _<|fw j) h m n i o
 .rename_i e A r s j;exact ze (b.yT f _<|fw j) h m n i o
 .rename_i g j;exact vJ (b.yT f _<|fw j) h m n i o
 .rename_i g j;exact zf (b.yT f _<|fw j) h m n i o
 .exact Bi b l h m n i o
theorem sg{o:Oper}{f:Nat}{xs:Array Value}{K:Act->World->Prop}{Q:Exit->Act->World->Prop}(g:(execOp a.eval o).run P w=(callFunc f xs).run P w)
  (h:(∃c b,P.funcs[f]?=some c/\(c.name == "runtime.NumGoroutine")=false/\c.body=some b)/\Calls P f xs w λe w'=>∃v,e=.returned v/\K (a.put o.dst v) w'):o.wp P a w K Q:=by
 obtain⟨⟨c,b,i,j,k⟩,l⟩:=h;unfold Oper.wp;rw[g,Bg i j k];refine l.mono λe w' m=>?_;obtain⟨v,rfl,n⟩:=m;exact n
theorem Da(L:df P cx){t ty:TypeId}{v:ax}{x:Value}{n:Int}(M:aO B γ σ.mem w)(E:bw γ σ.mem w v .val [x])(s:Gv (find cx.T t) v=true)(f:lenOf σ v=some n) :
  (Builtin.len_ #[t] ty #[x]).run P w=.ok (goInt n) w/\IntKind.i64.min<=n/\n<=IntKind.i64.max:=by
 have Z:(maxLen:Int)<=IntKind.i64.max:=by decide
 have O2:IntKind.i64.min<=0:=by decide
 have i:∀{base:Option Addr} {m c:Nat},(∃e,find cx.T t=some (.slice e))->x=.slice base m c->n=m->m<=maxLen->(Builtin.len_ #[t] ty #[x]).run P w=.ok (goInt n) w/\IntKind.i64.min<=n/\n<=IntKind.i64.max:=by
  intro base m c O hx hn M;obtain⟨e,O⟩:=O;obtain⟨Q,R,_⟩:=(L.T _ _ O).slice;subst hx;subst hn;refine⟨?_,by omega,by omega⟩;simp[Builtin.len_,run_underlying R]
 have j:∀{o:Option Ty},(match o with|some (.slice _)=>true|_=>false)=true->∃e,o=some (.slice e):=by
  intro o h;split at h
  .exact⟨_,rfl⟩
  .cases h
 cases v with
 | data u y =>
   cases u with
   | str =>
     obtain⟨rfl,F⟩:=nT E;obtain rfl:=aq f;have hT:=(L.T _ _<|fq s).str;have e1:(⟨List.toArray (α:=UInt8) y⟩:ByteArray).size=List.length (α:=UInt8) y:=by
      show(List.toArray (α:=UInt8) y).size=_
      exact Jp
     refine⟨?_,?_,?_⟩
     .simp only[Builtin.len_];simp[run_underlying hT,e1,len]
     .simp only[len];omega
     .simp only[len];omega
   | slice e =>
     obtain rfl:=aq f;obtain⟨cs,G,F⟩:=cH.1 E;rcases G with ⟨⟨_,G⟩,S⟩|⟨H,off,A,G,S,h4,_⟩
     .rw[G] at F;exact i ⟨e,fq s⟩ (show x=.slice _ 0 0 from F) (by rw[S];rfl) (jO _)
     .rw[G] at F;exact i ⟨e,fq s⟩ (show x=.slice _ _ _ from F) rfl (iA S h4)
   | arr m e =>
     obtain⟨Q,R,_⟩:=(L.T _ _<|fq s).arr;simp only[lenOf] at f;cases p:Nat.ble m 4294967296 with
     | false=>rw[p] at f;cases f
     | true =>
       rw[p] at f;obtain rfl:=aq f;have:=rT p;have h9:(4294967296:Int)<=IntKind.i64.max:=by decide
       refine⟨by simp[Builtin.len_,run_underlying R],by omega,by omega⟩
   | _=>cases f
 | jt =>
   obtain rfl:=aq f;obtain rfl:x=_:=by simpa [bw] using E
   exact i (j s) rfl rfl (jO _)
 | whole b au =>
   simp only[lenOf] at f;split at f
   .rename_i I p;cases g:(Nat.beq I.au au&&I.buf) with
    | false=>rw[g] at f;cases f
    | true =>
      rw[g] at f;simp only[cA] at g;simp only[cd] at f;split at f
      .rename_i u l r;obtain rfl:=aq f;obtain⟨e',k,U,V,D⟩:=aC p (cG g.1) E.2;rw[aS.ck U r] at V;obtain⟨rfl,rfl⟩:=b8 (aq V);rcases D with ⟨D,J⟩|⟨H,A,D,J⟩
       .have W:=M.boxes b I p;obtain⟨e3,l3,X,q2,z⟩:=W.Hq U (λ_ q=>by rw[r] at q;cases q);rw[r] at X;cases X;rcases z with ⟨_,z⟩|⟨H,A,Y,tid,fr,z,_⟩
        .exact i (j s) (pY J) (by rw[z];rfl) (jO _)
        .rw[D] at z;cases z
       .obtain⟨Y,tid,fr,X,q2,z,q4,_⟩:=((M.boxes b I p).row D).1 _ l U r;exact i (j s) (pY J) rfl (iA z q4)
      .cases f
   .cases f
 | part b au lo n' =>
   simp only[lenOf] at f;cases C:live σ b au with
   | false=>rw[C] at f;cases f
   | true =>
     rw[C] at f;obtain rfl:=aq f;obtain⟨I,p,K⟩:=gj C;obtain⟨e',k,V,D,J,g5,base,A,g6,g7,g8,gF,g9⟩:=aC p K E.2;exact i (j s) (pY g6) (Jm J).symm (iA g7 g8)
 | _=>cases f
theorem dS.take{w:World}{I:Nat->Nat->Prop}{e:Ty}{l:List e.den}{cs:List Value}(h:dS w I e l cs)(k:Nat):dS w I e (l.take k) (cs.take<|k*e.size):=by
 intro i x b;rw[kK] at b;split at b
 .rename_i c;have f:(i+1)*e.size<=k*e.size:=lz _ c;rw[p6] at f;rw[Gn,CE,ub (by omega)];exact h i x b
 .cases b
theorem dS.drop{w:World}{I:Nat->Nat->Prop}{e:Ty}{l:List e.den}{cs:List Value}(h:dS w I e l cs)(k:Nat):dS w I e (l.drop k) (cs.drop<|k*e.size):=by
 intro i x b;rw[pT] at b;rw[oZ,<-o0];exact h _ x b
theorem qp{α:Type}{l m:List α}{b:Int}(c:0<=b)(h:b+m.length<=l.length):(over l b m).length=l.length:=by
 simp only[over,l9,fj,mJ];omega
theorem dS.over{w:World}{I:Nat->Nat->Prop}{e:Ty}{l m:List e.den}{cs b:List Value}{c:Int}(h:dS w I e l cs)(q:dS w I e m b)(k:b.length=m.length*e.size)(r:0<=c)
  (s:c+m.length<=l.length) (C:l.length*e.size<=cs.length):dS w I e (over l c m) (aZ cs (c.toNat*e.size) b):=by
 have t:(c.toNat+m.length)*e.size<=l.length*e.size:=lz _ (by omega);rw[o0] at t;have n:=(h.take c.toNat).append (rest:=[]) q (by rw[fj,fj,ub (by omega),ub (by omega)]) k;rw[ua] at n;have D:=n.append (rest:=[]) (h.drop<|c.toNat+m.length) (by rw[l9,l9,o0,k,fj,fj,ub (by omega),ub (by omega)]);have u:aZ cs (c.toNat*e.size) b=cs.take (c.toNat*e.size)++b++cs.drop ((c.toNat+m.length)*e.size):=by
  simp only[aZ,k,o0]
 rw[u];intro i x f;have v:i<l.length:=by have:=(sE.1 f).1;rw[qp r s] at this;exact this
 have y:(i+1)*e.size<=l.length*e.size:=lz _ v;by_cases g:(c.toNat+m.length)*e.size+(l.length-(c.toNat+m.length))*e.size=l.length*e.size
 .have z:dS w I e (Go.Ge.over l c m) (cs.take (c.toNat*e.size)++b++(cs.drop<|(c.toNat+m.length)*e.size)):=by
   intro i x f;by_cases o:i<c.toNat+m.length
   .have j:(l.take c.toNat++m)[i]?=some x:=by
     simp only[Go.Ge.over] at f;rw[Ct<|by rw[l9,fj];omega] at f;exact f
    have p:(i+1)*e.size<=(c.toNat+m.length)*e.size:=lz _ o;rw[ja<|by rw[l9,fj,k,ub (by omega),<-o0];exact p];exact n i x j
   .have j:(l.drop<|c.toNat+m.length)[i-(c.toNat+m.length)]?=some x:=by
     simp only[Go.Ge.over] at f;rw[Ep<|by rw[l9,fj];omega] at f;rw[<-f];congr 1;rw[l9,fj];omega
    have:=h.drop (c.toNat+m.length) _ x j;have A:i*e.size=(cs.take (c.toNat*e.size)++b).length+(i-(c.toNat+m.length))*e.size:=by
     rw[l9,fj,k,ub (by omega),<-o0,<-o0];congr 1;omega
    rw[A,<-oZ,rV];exact this
  exact z i x f
 .exact absurd (by rw[<-o0];congr 1;omega) g
theorem mT(h:b6 B N γ σ a w){e:Ty}{m:List e.den}{b S:Nat}{q:List rW}{NA:Nat->Ty->Bool}{g:Int}{base:Option Addr}{f:List Value}
  (hr:(gi e m b S q NA g σ).run=some aB) (hE:dS w γ.I e m f) (hn:f.length=m.length*e.size) (Qs:∀u∈f,u.oneCell'=true) (h0:0<=g)
  (Qt:∀bx (l:List e.den),σ.mem b=some bx->bx.au=S->bx.buf=true->bx.val=.data (.slice e) l->q=[]->g+m.length<=l.length)
  (Qu:∀bx k (l:List e.den),σ.mem b=some bx->bx.au=S->bx.buf=false->(Hj q bx.val).run=some (.data (.arr k e) l)->NA k e=true->g+m.length<=k)
  (T:m=[]\/∃j c,γ.loc b=some (j,c)/\base=some ⟨j,b3 q+g.toNat*e.size,none⟩) :
  ∃w',(match base with|some ad=>storeCells ad f|none=>pure ()).run P w=.ok () w'/\b6 B N γ aB a w'/\Ext B γ σ.mem w γ aB.mem w':=by
 unfold gi at hr;split at hr
 case h_2=>cases hr
 rename_i bx hb;obtain⟨Ru,y⟩:=ak hr;simp only[cA,fO] at Ru;obtain⟨⟨z,IX⟩,PG⟩:=Ru;have z:=cG z;have K:=h.ok.boxes b bx hb;have O:m=[]->f=[]:=λhm=>by subst hm;simpa using hn
 have Q:m=[]->(match base with|some ad=>storeCells ad f|none=>pure ()).run P w=.ok () w:=λhm=>by
  rw[O hm];cases base<;>rfl
 have A:∀(j c:Nat) (cur:Array Value) (tid:TypeId) (F:Nat×Nat),γ.loc b=some (j,c)->w.heap[j]?=some (.cells cur tid F)->iD cur F->b3 q+g.toNat*e.size+f.length<=cur.size ->
   (match base with|some ad=>storeCells ad f|none=>pure ()).run P w=.ok () (w.setRow j (aZ cur.toList (b3 q+g.toNat*e.size) f).toArray):=by
  intro j c cur tid F hl hg SN D;rcases T with hm|⟨JY,c',Rv,rfl⟩
  .rw[Q hm,O hm];simp only[aZ,ua,ni,rq,vt,Array.toArray_toList];rw[setRow_self w j cur tid F hg]
  .rw[hl] at Rv;obtain⟨rfl,rfl⟩:=b8 (aq Rv);have:=cQ (P:=P) j (b3 q+g.toNat*e.size) tid F f 0 cur w hg SN (by omega) Qs;rw[rq] at this;exact this
 split at y
 .rename_i n;split at y
  case h_2=>cases y
  rename_i u l o;split at y
  case h_2=>cases y
  rename_i s U;obtain rfl:=aq y;obtain⟨hq,V⟩:=gh U;subst hq;obtain rfl:s=m:=V;have D:=Qt bx l hb z n o rfl;have hlen:=qp h0 D;obtain⟨e2,l2,j1,j2,j3⟩:=K.Hq n (λ_ q=>by rw[o] at q;cases q);rw[o] at j1;cases j1;have W:({ bx with val:=.data (.slice e) (over l g s) }:aS).row=bx.row:=by
   rw[aS.ck n o];exact(aS.ck (bx:=⟨.data (.slice e)<|over (α:=e.den) l g s,bx.tid,bx.buf,bx.ro,bx.lk,bx.au⟩) (l:=over (α:=e.den) l g s) n rfl).trans (by rw[hlen])
  rcases j3 with ⟨R,X⟩|⟨j,cap,cur,tid,F,R,X,k3,G,k4,k5,k6,k7⟩
  .subst X;have Qv:s=[]:=by
    cases s with
    | nil=>rfl
    | cons x r=>simp at D;omega
   subst Qv;have e1:σ.bI b { bx with val:=.data (.slice e) (over ([]:List e.den) g []) }=σ:=by
    have:({ bx with val:=.data (.slice e) (over ([]:List e.den) g []) }:aS)=bx:=by
     cases bx;simp only at o;subst o;simp[over]
    rw[this];cases σ;simp only[St.bI]
    congr 1
    funext i;by_cases hi:i=b
    .subst hi;simp only[uf,cd];exact hb.symm
    .simp[fm hi]
   rw[e1];exact⟨w,Q rfl,h,Ext.refl _ _ _ _⟩
  .have t:b3 ([]:List rW)+g.toNat*e.size+f.length<=cur.size:=by
    have:(g.toNat+s.length)*e.size<=cap*e.size:=lz _ (by omega);rw[o0] at this;simp only[b3];omega
   have L:=A j cap cur tid F R X k3.th t;have H:g.toNat*e.size+f.length<=cur.toList.length:=by simp only[b3] at t;show _<=cur.size;omega
   have E:(aZ cur.toList (g.toNat*e.size) f).toArray.size=cur.size:=by have:=cf H;simpa using this
   obtain⟨m1,m2⟩:=h.ok.write hb PG R X (cur':=(aZ cur.toList (g.toNat*e.size) f).toArray) (v:=.data (.slice e) (over l g s)) E W
    (λw' cm hx hg=>by
     show ca γ cm w' b { bx with val:=.data (.slice e) (over l g s) }
     unfold ca;simp only[n];refine .inr ⟨e,_,rfl,j2,.inr ⟨j,cap,_,tid,F,R,hg,k3.same E,G,by rw[hlen];exact k4,k5,by rw[E];exact k6,?_⟩⟩;intro i x Nn;have:=dS.over (l:=l) (cs:=cur.toList) k7 hE hn h0 D (by show _<=cur.size;rw[k6];exact lz _ k4) i x Nn;simpa using bg.mono hx.I hx.cells this)
   simp only[b3,kL] at L;exact⟨_,L,h.go m2 m1,m2⟩
 .rename_i n;obtain⟨old,M,Y⟩:=bind_some y;split at Y
  case h_2=>cases Y
  rename_i k u l;obtain⟨SO,Z⟩:=ak Y;split at Z
  case h_2=>cases Z
  rename_i s U;obtain⟨c,hs,P4⟩:=bind_some Z;obtain rfl:=aq P4;obtain⟨hq,V⟩:=gh U;subst hq;obtain rfl:s=m:=V;have D:=Qu bx k l hb z n M SO;unfold ca at K;rw[n] at K;obtain⟨j,cap,cur,tid,F,R,X,k3,G,k4⟩:=K;obtain⟨p1,p2⟩:=nB k4 M;have SP:b4 (.data (.arr k e) l)=k*e.size:=rfl;rw[SP] at p1 p2;obtain⟨r1,r2,r3⟩:=p2;have Rw:g+s.length<=(List.length (α:=e.den) l:Int):=by rw[r1];exact D
  have hlen:List.length (α:=e.den) (over (α:=e.den) l g s)=List.length (α:=e.den) l:=qp (l:=l) h0 Rw;have Qw:(g.toNat+s.length)*e.size<=k*e.size:=lz _ (by omega);rw[o0] at Qw;have t:b3 q+g.toNat*e.size+f.length<=cur.size:=by have TV:b3 q+k*e.size<=cur.size:=p1;omega
  have L:=A j cap cur tid F R X k3 t;have C:((cur.toList.drop<|b3 q).take<|k*e.size).length=k*e.size:=r2;have J:g.toNat*e.size+f.length<=((cur.toList.drop<|b3 q).take<|k*e.size).length:=by rw[C];omega
  have Qx:bg w γ.I (.arr k e) (over l g s) (aZ ((cur.toList.drop<|b3 q).take<|k*e.size) (g.toNat*e.size) f):=by
   refine⟨hlen.trans r1,by rw[cf J,C],?_⟩;exact dS.over (l:=l) r3 hE hn h0 Rw (by rw[C];exact yZ (by rw[r1]))
  have Qy:=lh cur.toList (b3 q) (g.toNat*e.size) (k*e.size) f (by omega) p1;have W:({ bx with val:=c }:aS).row=bx.row:=u7 (bx:=bx) (p:=q) (v:=.data (.arr k e) (over l g s)) (by rw[n];exact hs) λhp _=>by
   subst hp;have o:bx.val=.data (.arr k e) l:=aq M;rw[aS.kk n o];exact aS.kk (bx:=⟨_,bx.tid,bx.buf,bx.ro,bx.lk,bx.au⟩) n rfl
  have H:b3 q+g.toNat*e.size+f.length<=cur.toList.length:=t;have E:(aZ cur.toList (b3 q+g.toNat*e.size) f).toArray.size=cur.size:=by have:=cf H;simpa using this
  obtain⟨m1,m2⟩:=h.ok.write hb PG R X (cur':=(aZ cur.toList (b3 q+g.toNat*e.size) f).toArray) (v:=c) E W
   (λw' cm hx hg=>by
    show ca γ cm w' b { bx with val:=c }
    unfold ca;simp only[n];refine⟨j,cap,_,tid,F,R,hg,k3.same E,G,?_⟩;have:=pe (k4.ext hx) M hs (show bw γ cm w' (.data (.arr k e)<|over l g s) .cells _ from bg.mono hx.I hx.cells Qx) (by rw[cf J,C];rfl);rw[Qy] at this;simpa using this)
  exact⟨_,L,h.go m2 m1,m2⟩
theorem tm{e:Ty}{Q:Int->List e.den}{t:ax}{tv:Value}{r:Int×St}(h:b6 B N γ σ a w)(hv:bw γ σ.mem w t .val [tv])(T:(uj e Q t σ).run=some r) :
  ∃base cap,tv=.slice base r.1.toNat cap/\0<=r.1/\∀g,dS w γ.I e (Q r.1) g->g.length=(Q r.1).length*e.size->(∀u∈g,u.oneCell'=true)->(Q r.1).length<=r.1.toNat ->
   ∃w',(match base with|some ad=>storeCells ad g|none=>pure ()).run P w=.ok () w'/\b6 B N γ r.2 a w'/\Ext B γ σ.mem w γ r.2.mem w':=by
 unfold uj at T;split at T
 .rename_i b G lo n;obtain⟨aV,f,H⟩:=bind_some T;obtain rfl:=aq H;have o:∃p,σ.mem b=some p/\p.au=G:=by
   unfold gi at f;split at f
   .rename_i p v;obtain⟨z,_⟩:=ak f;simp only[cA] at z;exact⟨p,v,cG z.1.1⟩
   .cases f
  obtain⟨p,v,x⟩:=o;obtain⟨e',k,J,R,S,g5,base,cap,g6,g7,g8,gF,K⟩:=aC v x hv.2;refine⟨base,cap,by simpa using g6,S,λg X Y A E=>?_⟩;dsimp only at X Y E;refine mT h f X Y A R (λL l y _ j m _=>?_) (λL k' l y _ j F _=>?_) ?_
  .obtain rfl:=aq (v.symm.trans y);rw[aS.ck j m] at J;obtain⟨_,rfl⟩:=b8 (aq J);omega
  .obtain rfl:=aq (v.symm.trans y);have m:p.val=.data (.arr k' e) l:=aq F;rw[aS.kk j m] at J;obtain⟨_,rfl⟩:=b8 (aq J);omega
  .rcases K with K|⟨s,c,K,Z⟩
   .left;exact I3 (by rw[K,show(0:Int).toNat=0 from rfl] at E;rw[K];omega)
   .by_cases hm:Q n=[]
    .exact .inl hm
    .right;have he:e'=e:=by
      unfold gi at f;rw[v] at f;obtain⟨_,i⟩:=ak f;split at i
      .rename_i j;split at i
       case h_2=>cases i
       rename_i u l m;split at i
       case h_2=>cases i
       rename_i m' C;obtain⟨U,_⟩:=gh C;rw[aS.ck j m] at J;obtain⟨rfl,_⟩:=b8 (aq J);exact U.symm
      .rename_i j;obtain⟨old,F,D⟩:=bind_some i;split at D
       case h_2=>cases D
       rename_i k' u l;obtain⟨_,M⟩:=ak D;split at M
       case h_2=>cases M
       rename_i m' C;obtain⟨U,_⟩:=gh C;have m:p.val=.data (.arr k' u) l:=aq F;rw[aS.kk j m] at J;obtain⟨rfl,_⟩:=b8 (aq J);exact U.symm
     subst he;exact⟨s,c,K,by rw[Z];simp[b3]⟩
 .rename_i b G;split at T
  case h_2=>cases T
  rename_i n V;obtain⟨aV,f,H⟩:=bind_some T;obtain rfl:=aq H;have o:∃p,σ.mem b=some p/\p.au=G:=by
   unfold gi at f;split at f
   .rename_i p v;obtain⟨z,_⟩:=ak f;simp only[cA] at z;exact⟨p,v,cG z.1.1⟩
   .cases f
  obtain⟨p,v,x⟩:=o;obtain⟨e',k,g1,J,R⟩:=aC v x hv.2;have OY:=h.ok.boxes b p v;have hl:∃l:List e.den,p.val=.data (.slice e) l/\n=l.length:=by
   unfold gi at f;rw[v] at f;obtain⟨_,i⟩:=ak f;split at i
   .split at i
    case h_2=>cases i
    rename_i u l Rx m;split at i
    case h_2=>cases i
    rename_i m' C;obtain⟨U,_⟩:=gh C;subst U;refine⟨l,m,?_⟩;simp only[lenOf,v,x,g1,uf,Bool.and_self,cd,m] at V;exact(aq V).symm
   .rename_i j;rw[g1] at j;cases j
  obtain⟨l,m,rfl⟩:=hl;rw[aS.ck g1 m] at J;obtain⟨rfl,rfl⟩:=b8 (aq J);have fin:∀{base:Option Addr} {cap:Nat},tv=.slice base l.length cap->(l.length=0\/∃s c,γ.loc b=some (s,c)/\base=some ⟨s,0,none⟩) ->
    ∃base cap,tv=.slice base (l.length:Int).toNat cap/\(0:Int)<=l.length/\∀g,dS w γ.I e (Q l.length) g->g.length=(Q l.length).length*e.size->(∀u∈g,u.oneCell'=true)->(Q l.length).length<=(l.length:Int).toNat ->
     ∃w',(match base with|some ad=>storeCells ad g|none=>pure ()).run P w=.ok () w'/\b6 B N γ aV a w'/\Ext B γ σ.mem w γ aV.mem w':=by
   intro base cap SQ Ry;refine⟨base,cap,by simpa using SQ,by omega,λg X Y A E=>?_⟩;refine mT h f X Y A (by omega) (λL l' y _ j W _=>?_) (λL k' l' y _ j F _=>?_) ?_
   .obtain rfl:=aq (v.symm.trans y);rw[m] at W;cases W;omega
   .obtain rfl:=aq (v.symm.trans y);rw[g1] at j;cases j
   .rcases Ry with Ry|⟨s,c,q1,q2⟩
    .left;exact I3 (by omega)
    .right;exact⟨s,c,q1,by rw[q2];simp[b3]⟩
  rcases R with ⟨R,S⟩|⟨s,cap,R,S⟩
  .obtain S:tv=_:=by simpa using S
   obtain⟨e2,l2,j1,j2,j3⟩:=OY.Hq g1 (λ_ q=>by rw[m] at q;cases q);rw[m] at j1;cases j1;rcases j3 with ⟨_,j4⟩|⟨_,_,_,_,_,j3,_⟩
   .exact fin (base:=none) (cap:=0) (by rw[S,j4];rfl) (.inl<|by rw[j4];rfl)
   .rw[R] at j3;cases j3
  .exact fin (pY S) (.inr ⟨s,cap,R,rfl⟩)
 .rename_i b G q u k lo n;obtain⟨aV,f,H⟩:=bind_some T;obtain rfl:=aq H;have o:∃p,σ.mem b=some p/\p.au=G:=by
   unfold gi at f;split at f
   .rename_i p v;obtain⟨z,_⟩:=ak f;simp only[cA] at z;exact⟨p,v,cG z.1.1⟩
   .cases f
  obtain⟨p,v,x⟩:=o;obtain⟨U,s,c,g1,R,S,g5,base,cap,g6,g7,K⟩:=aC v x hv.2;refine⟨base,cap,by simpa using g6,S,λg X Y A E=>?_⟩;dsimp only at X Y E;refine mT h f X Y A R (λL l y _ j m Rx=>absurd Rx U) (λL k' l y _ j F O=>?_) ?_
  .simp only[cA] at O;have:=cG O.1;omega
  .rcases K with K|Z
   .left;exact I3 (by rw[K,show(0:Int).toNat=0 from rfl] at E;rw[K];omega)
   .by_cases hm:Q n=[]
    .exact .inl hm
    .right;have he:u=e:=by
      unfold gi at f;rw[v] at f;obtain⟨_,i⟩:=ak f;split at i
      .split at i
       .exact absurd rfl U
       .cases i
      .obtain⟨old,F,D⟩:=bind_some i;split at D
       case h_2=>cases D
       obtain⟨O,M⟩:=ak D;split at M
       case h_2=>cases M
       rename_i m' C;obtain⟨Qd,_⟩:=gh C;simp only[cA] at O;exact(Ty.eq_of_beq O.2).trans Qd.symm
     subst he;exact⟨s,c,g1,Z⟩
 .cases T
theorem xw{I:Nat->Nat->Prop}{e:Ty}{m:List e.den}{v:Value}(h:qj w I e m v)(n:Nat)(q:n<=m.length) :
  ∃b,(Builtin.firstCells e.size n v).run P w=.ok b.toArray w/\b.length=n*e.size/\(∀u∈b,u.oneCell'=true)/\dS w I e (m.take n) b/\(Builtin.lenOf v).run P w=.ok m.length w:=by
 rcases h with ⟨rfl,g,c,k,r,s⟩|⟨t,y,c,k,r,s,z⟩
 .obtain rfl:n=0:=by simpa using q
  subst k;refine⟨[],?_,by simp,λu A=>absurd A (by simp),λi x f=>absurd f (by simp),rfl⟩;cases g with
  | none=>rfl
  | some C=>exact run_firstCells_some w e.size 0 C 0 c [] (by simp) (λj v o=>by cases o)
 .obtain⟨b,p,D,E,F⟩:=xi (w:=w) (l:=m.take n) λi x f=>by
   rw[kK] at f;split at f
   .exact z i x f
   .cases f
  rw[fj,ub q] at p;refine⟨b,?_,p,E,F,by rw[k];rfl⟩;rw[k];exact run_firstCells_some w e.size n _ m.length c b p (λj u o=>by rw[addr_add];exact D j u o)
theorem xy{I:Nat->Nat->Prop}{s:aE}(n:Nat)(h:n<=s.length) :
  ∃e,(Builtin.firstCells 1 n<|.string ⟨s.toArray⟩).run P w=.ok e.toArray w/\e.length=n/\(∀u∈e,u.oneCell'=true)/\dS w I (.int .u8) ((al s).take n:List Int) e/\(Builtin.lenOf<|.string ⟨s.toArray⟩).run P w=.ok (al s).length w:=by
 refine⟨(s.take n).map λb=>Value.int .u8 b.toNat,?_,by simp[h],λu l=>?_,λi x m=>?_,?_⟩
 .simp only[Builtin.firstCells,Sem.run_pure]
  congr 1
  apply CJ;have o:(⟨s.toArray⟩:ByteArray).extract 0 n=⟨(s.take n).toArray⟩:=by
   have:=CY s (i:=0) (j:=n) (by omega) (by omega);simpa [sub,minus] using this
  rw[o];simp
 .obtain⟨_,_,rfl⟩:=lY.1 l;rfl
 .have c:((al s).take n)[i]?=some x:=m;rw[kK] at c;split at c
  .rename_i p;simp only[al,sH] at c;cases g:s[i]? with
   | none=>rw[g] at c;cases c
   | some b =>
     rw[g] at c;obtain rfl:(b.toNat:Int)=x:=aq c;refine⟨?_,Bb b⟩;apply Cw;intro j;rw[kK];split
     .rename_i f;obtain rfl:j=0:=by simp[Ty.size] at f;exact f
      rw[pT];simp[Ty.size,g,p]
     .rename_i f;obtain⟨k,rfl⟩:∃k,j=k+1:=⟨j-1,by simp[Ty.size] at f;omega⟩;simp
  .cases c
 .simp[Builtin.lenOf,al,ByteArray.size]
theorem oF(s:aE):(al s).length=s.length:=p5 ..
theorem J9{s:aE}{n:Nat}(h:n<=(al s).length):n<=s.length:=by rw[oF] at h;exact h
theorem EP(i:aO B γ σ.mem w){e:Ty}{m:List e.den}{x:ax}{v:Value}(f:bw γ σ.mem w x .val [v])(h:mL e σ x=some m)(n:Nat)(g:n<=m.length) :
  ∃b,(Builtin.firstCells e.size n v).run P w=.ok b.toArray w/\b.length=n*e.size/\(∀u∈b,u.oneCell'=true)/\dS w γ.I e (m.take n) b/\(Builtin.lenOf v).run P w=.ok m.length w:=by
 unfold mL at h;split at h
 .rename_i t;obtain⟨q,j⟩:=gh h;subst q;subst j;obtain⟨k,_⟩:=nT f;rw[k];have c:n<=List.length (α:=UInt8) t:=J9 g;obtain⟨b,l,o,p,r,y⟩:=xy (P:=P) (w:=w) (I:=γ.I) (s:=t) n c;exact⟨b,l,by rw[o];simp[Ty.size],p,r,y⟩
 .exact xw (kW i f h) n g
theorem xz(D:df P cx){z E F:TypeId}{t x:Operand}(h:b6 B N γ σ a w)(G:∀k,d=some k->k<N)(f:(oo cx d z (bG σ t) (bG σ x) σ).run=some aB) :
  iz P B N γ σ a w d (Builtin.copy_ #[z,E] F #[a.eval t,a.eval x]) aB:=by
 unfold oo at f;split at f
 case h_2=>cases f
 rename_i e H;split at f
 case h_1=>cases f
 rename_i m i;obtain⟨r,n,o⟩:=bind_some f;obtain rfl:=aq o;obtain⟨I,J,K,k3,k4⟩:=(D.T _ _ H).slice;obtain⟨j,p,L,c2,M⟩:=tm (P:=P) h (h.bG t) n;have hlen:(iq (α:=e.den) m r.1).length=Nat.min m.length r.1.toNat:=by
  simp only[iq,fj];exact Nat.min_comm _ _
 obtain⟨l,O,Q,R,A,S⟩:=EP (P:=P) h.ok (h.bG x) i (Nat.min m.length r.1.toNat) (Nat.min_le_left _ _);have c:(m.take<|Nat.min m.length r.1.toNat)=iq (α:=e.den) m r.1:=by
  simp only[iq];rcases Nat.le_total m.length r.1.toNat with b|b
  .rw[show Nat.min m.length r.1.toNat=m.length from ub b,sG (cU _),sG b]
  .rw[show Nat.min m.length r.1.toNat=r.1.toNat from Nat.min_eq_right b]
 rw[c] at A;obtain⟨w',g,U,V⟩:=M l A (by rw[Q,hlen]) R (by rw[hlen];exact Nat.min_le_right _ _);have C:(iq (α:=e.den) m r.1).length<=maxLen:=by
  rcases Gk (iq (α:=e.den) m r.1).length with W|W
  .omega
  .rw[hlen];refine iA (Nat.min_le_left _ _) ?_;have hv:=h.bG x;unfold mL at i;split at i
   .rename_i s X;obtain⟨q,Y⟩:=gh i;subst q;subst Y;rw[X] at hv;obtain⟨_,u⟩:=nT hv;exact iA (yZ<|oF s) u
   .rcases kW h.ok hv i with ⟨rfl,_⟩|⟨_,_,p,_,u,Z,_⟩
    .exact jO _
    .exact iA u Z
 refine⟨goInt (iq (α:=e.den) m r.1).length,w',γ,?_,?_,?_⟩
 .have y:=K.sizeOf w;simp only[Builtin.copy_,L];simp only[Ng,Jb,Jc,Sem.run_bind,run_underlying J,Result.andThen_ok,S,y,O,hlen];cases j with
  | none=>simp only[Sem.run_pure,Result.andThen_ok] at g⊢;injection g with _ g;subst g;rfl
  | some ad=>simp only at g⊢;simp only[Sem.run_bind,g,Result.andThen_ok,Sem.run_pure]
 .have h9:(maxLen:Int)<=IntKind.i64.max:=by decide
  have h8:IntKind.i64.min<=0:=by decide
  have:=U.mP G (v:=.data (.int .i64) (len<|iq (α:=e.den) m r.1)) (val:=goInt (iq (α:=e.den) m r.1).length) (mkInt ⟨by simp only[len];omega,by simp only[len];omega⟩);exact this
 .cases d<;>exact V
theorem vK(s:df P cx){o v:TypeId}{t:Operand}(h:b6 B N γ σ a w)(j:(oq cx o (bG σ t) σ).run=some aB) :
  iz P B N γ σ a w none (Builtin.clear_ #[o] v #[a.eval t]) aB:=by
 unfold oq at j;split at j
 case h_2=>cases j
 rename_i e y;obtain⟨r,l,m⟩:=bind_some j;obtain rfl:=aq m;obtain⟨A,C,D,S,E⟩:=(s.T _ _ y).slice;obtain⟨f,F,G,U,H⟩:=tm (P:=P) h (h.bG t) l;have hlen:(AQ r.1 e.zero).length=r.1.toNat:=by simp[AQ]
 obtain⟨z,J,p⟩:=D.zero w;have K:=mR p E r.1.toNat;have g:=ia w γ.I (.arr r.1.toNat e);have b:(Builtin.zeroCells z.cells r.1.toNat).toList=cS (.arr r.1.toNat e):=by
  have n:z.cells.size=e.size:=by rw[<-dk e,<-p];simp
  rw[<-K];simp only[Builtin.zeroCells,madeCells,n]
 obtain⟨w',c,L,M⟩:=H (cS<|.arr r.1.toNat e) (λi x O=>g.2.2 i x O) (by rw[dk,hlen];rfl) (λu Q=>g.one u Q) (yZ hlen);refine⟨.tuple #[],w',γ,?_,L,M⟩;simp only[Builtin.clear_,G];simp only[Ng,Jb,Sem.run_bind,run_underlying C,Result.andThen_ok];cases f with
 | none=>simp only[Sem.run_pure,Result.andThen_ok] at c⊢;injection c with _ c;subst c;rfl
 | some V =>
   simp only at c;by_cases q:r.1.toNat=0
   .have:cS (.arr r.1.toNat e)=[]:=I3 (by rw[dk];simp[Ty.size,q]);rw[this] at c;injection c with _ c
    subst c;rw[q];simp only[Sem.run_pure,Result.andThen_ok]
   .obtain⟨k,R⟩:∃k,r.1.toNat=k+1:=⟨r.1.toNat-1,by omega⟩;rw[R] at c b⊢;simp only[Sem.run_bind,J,Result.andThen_ok,b,c,Sem.run_pure]
theorem tn{b:Bool}{p q r:ax}{u v:Value}(i:bw γ σ.mem w p .val [u])(j:bw γ σ.mem w q .val [v])(g:(AV b p q).run=some r) :
  ∃z,((if b then Builtin.min2 u v else Builtin.max2 u v)).run P w=.ok z w/\bw γ σ.mem w r .val [z]:=by
 unfold AV at g;split at g
 .rename_i k n o m;obtain⟨l,h⟩:=ak g;obtain rfl:=oh l;obtain rfl:=aq h;obtain⟨rfl,e⟩:=lZ i;obtain⟨rfl,f⟩:=lZ j;have cmp:∀n m:Int,k.min<=n/\n<=k.max->k.min<=m/\m<=k.max->bw γ σ.mem w (.data (.int k)<|Eu n m) .val [.int k<|if m<n then m else n]/\bw γ σ.mem w (.data (.int k)<|imax n m) .val [.int k<|if m > n then m else n]:=by
   intro n m e f;constructor
   .unfold Eu;by_cases c:m<n
    .simp only[c,wJ,cd,jr];exact mkInt f
    .simp only[c,Gt,fk,ug];exact mkInt e
   .unfold imax;by_cases c:n<m
    .simp only[c,wJ,cd,gt_iff_lt,jr];exact mkInt f
    .simp only[c,Gt,fk,gt_iff_lt,ug];exact mkInt e
  cases b with
  | true=>exact⟨_,rfl,(cmp n m e f).1⟩
  | false=>exact⟨_,rfl,(cmp n m e f).2⟩
 .cases g
end
end Go.Ge
namespace Go.Ge
open RowKit
section
variable {P:Program} {B:Own} {N:Nat} {γ:Gh} {σ aB:St} {a:Act} {w w':World} {d:Option Nat} {cx:Ctx} {nb:Nat} {bf:List Nat} {inl:Nat->List ax->St->Tree (ax×St)}
theorem Bj{f:Operand->ax}{l:List Operand}{x:ax}(h:l.map f=[x]):∃o,l=[o]/\f o=x:=by
 cases l with
 | nil=>cases h
 | cons o r=>cases r with
   | nil=>exact⟨o,rfl,by simpa using h⟩
   | cons p r=>simp at h
theorem wo{f:Operand->ax}{l:List Operand}{x y:ax}(h:l.map f=[x,y]):∃o p,l=[o,p]/\f o=x/\f p=y:=by
 cases l with
 | nil=>cases h
 | cons o r =>
   obtain⟨p,b,c⟩:=Bj (l:=r) (f:=f) (x:=y) (by simp at h⊢;exact h.2);subst b;exact⟨o,p,rfl,by simp at h;exact h.1,c⟩
theorem cZ{b:Type}{a:Array b}{l:List b}(h:a.toList=l):a=l.toArray:=by rw[<-h]
theorem HF{c:Type}(k:Value->Array Value->Sem c)(x:Value)(b:Array Value):(match(#[x]++b)[0]? with|some recv=>k recv ((#[x]++b).extract 1 (#[x]++b).size)|x=>stuck "call: a method without a receiver")=k x b.toList.toArray:=by
 have e:(#[x]++b)[0]?=some x:=by rw[<-Jf,Hg];rfl
 have f:(#[x]++b).extract 1 (#[x]++b).size=b.toList.toArray:=by
  apply CJ;rw[Array.toList_extract,Hg,Jq];simp[List.extract];rw[<-Cy,CA]
 rw[e,f]
theorem ER(W:df P cx)(H:jy P B.G cx)(R:nE P B.G inl){o:Oper}{c:Call}(L:o.op=.call c)(h:b6 B N γ σ a w)(O:∀k,o.dst=some k->k<N)
  (l:(mM cx nb bf inl o.dst o.type c σ).run=some aB) {K:Act->World->Prop} {Q:Exit->Act->World->Prop} (M:qo B N γ σ a w o.dst aB K):o.wp P a w K Q:=by
 unfold mM at l;split at l
 .rename_i b j;split at l
  ·
   rename_i x t A S;obtain⟨m,p,rfl⟩:=Bj A;cases X:Gv (find cx.T t) (bG σ m) with
   | false =>
     rw[X] at l;simp only[fk] at l;split at l
     .rename_i e b au q u k lo n he A;obtain⟨hl,g⟩:=ak l;simp only[cA,yV] at hl;obtain rfl:=aq g;obtain⟨bx,OY,D⟩:=gj hl.1;have hv:=h.bG m;rw[A] at hv;obtain⟨_,Y,c',g1,g2,g3,g4,base,cap,g5,g6,g7⟩:=aC OY D hv.2;obtain g5:a.eval m=_:=by simpa using g5
      refine bk (s:=Builtin.len_ c.argTypes o.type (c.args.map a.eval)) ?_ (bd h O (x:=.int .i64 n) ?_<|mkInt ?_) M
      .unfold execOp;simp only[L,resolve,j,invoke,builtin];rfl
      .rw[cZ p,cZ S,show Array.map a.eval [m].toArray=#[a.eval m] from by simp,g5];simp[Builtin.len_,run_underlying (pg W he).1,Jm g3];rfl
      .exact⟨Int.le_trans (by decide) g3,Int.le_trans hl.2 (by decide)⟩
     .exact absurd l (by intro k;cases k)
   | true =>
   have g:(match lenOf σ (bG σ m) with|some n=>Tree.ret (σ.aA o.dst<|.data (.int .i64) n)|none=>.fail).run=some aB:=by rw[X] at l;exact l
   split at g
   .rename_i n hn;obtain rfl:=aq g;obtain⟨l1,l2⟩:=Da (ty:=o.type) W h.ok (h.bG m) X hn;refine bk (s:=Builtin.len_ c.argTypes o.type (c.args.map a.eval)) ?_ (bd h O (x:=.int .i64 n) ?_<|mkInt l2) M
    .unfold execOp;simp only[L,resolve,j,invoke,builtin];rfl
    .rw[cZ p,cZ S,show Array.map a.eval [m].toArray=#[a.eval m] from by simp];exact l1
   .exact absurd g (by intro k;cases k)
  .rename_i s x t u A S;obtain⟨os,m,p,rfl,rfl⟩:=wo A;have key:(∃e,P.underlying u=some (.slice e))\/P.underlying u=some .string->(eS cx nb o.dst t (bG σ os) (bG σ m) σ).run=some aB->o.wp P a w K Q:=by
    intro hk g;refine bk (s:=Builtin.append_ c.argTypes o.type (c.args.map a.eval)) ?_ ?_ M
    .unfold execOp;simp only[L,resolve,j,invoke,builtin];rfl
    .rw[cZ p,cZ S,show Array.map a.eval [os,m].toArray=#[a.eval os,a.eval m] from by simp];exact uB W h O hk g
   split at l
   .rename_i hu;exact key (.inr (W.T _ _ hu).str) l
   .rename_i e hu;obtain⟨Cq,f1,_⟩:=(W.T _ _ hu).slice;exact key (.inl ⟨Cq,f1⟩) l
   .exact absurd l (by intro k;cases k)
  .rename_i t x tt tx A S;obtain⟨ot,m,p,rfl,rfl⟩:=wo A;have key:(oo cx o.dst tt (bG σ ot) (bG σ m) σ).run=some aB->o.wp P a w K Q:=by
    intro g;refine bk (s:=Builtin.copy_ c.argTypes o.type (c.args.map a.eval)) ?_ ?_ M
    .unfold execOp;simp only[L,resolve,j,invoke,builtin];rfl
    .rw[cZ p,cZ S,show Array.map a.eval [ot,m].toArray=#[a.eval ot,a.eval m] from by simp];exact xz W h O g
   split at l
   .exact key l
   .exact key l
   .exact absurd l (by intro k;cases k)
  .rename_i t tt A S;obtain⟨ot,p,rfl⟩:=Bj A;split at l
   .rename_i Qz;refine bk (s:=Builtin.clear_ c.argTypes o.type (c.args.map a.eval)) ?_ ?_ M
    .unfold execOp;simp only[L,resolve,j,invoke,builtin];rfl
    .rw[cZ p,cZ S,show Array.map a.eval [ot].toArray=#[a.eval ot] from by simp,Qz];exact vK W h l
   .exact absurd l (by intro k;cases k)
  .rename_i x y A;obtain⟨m,Z,p,rfl,rfl⟩:=wo A;obtain⟨v,hb,g⟩:=bind_some l;obtain rfl:=aq g;obtain⟨z,z1,z2⟩:=tn (P:=P) (h.bG m) (h.bG Z) hb;refine bk (s:=Builtin.min_ c.argTypes o.type (c.args.map a.eval)) ?_ (bd h O (x:=z) ?_ z2) M
   .unfold execOp;simp only[L,resolve,j,invoke,builtin];rfl
   .rw[cZ p,show Array.map a.eval [m,Z].toArray=#[a.eval m,a.eval Z] from by simp];simp only[jr] at z1;simp[Builtin.min_,z1]
  .rename_i x y A;obtain⟨m,Z,p,rfl,rfl⟩:=wo A;obtain⟨v,hb,g⟩:=bind_some l;obtain rfl:=aq g;obtain⟨z,z1,z2⟩:=tn (P:=P) (h.bG m) (h.bG Z) hb;refine bk (s:=Builtin.max_ c.argTypes o.type (c.args.map a.eval)) ?_ (bd h O (x:=z) ?_ z2) M
   .unfold execOp;simp only[L,resolve,j,invoke,builtin];rfl
   .rw[cZ p,show Array.map a.eval [m,Z].toArray=#[a.eval m,a.eval Z] from by simp];simp only[Et,ug] at z1;simp[Builtin.max_,z1]
  .exact absurd l (by intro k;cases k)
 .rename_i f j;split at l
  .rename_i QA E hf;obtain⟨O4,g⟩:=ak l;have hv:=h.bG f;rw[hf] at hv;obtain⟨F,v1,v2,v3⟩:=hv;obtain v1:=pY v1;have J:gk γ σ.mem w (E.map λb=>.ptr b.1 b.2 []) F.toList:=by
    refine⟨by simpa using v2,λi v x h1 h2=>?_⟩;rw[sH] at h1;cases U:E[i]? with
    | none=>rw[U] at h1;cases h1
    | some bv =>
      rw[U] at h1;obtain rfl:=aq h1;have hl:=tZ.1 O4 bv (od U);obtain⟨bx,hb,D⟩:=gj hl;have SR:=v3 i bv.1 bv.2 (by rw[U]);obtain⟨Y,cap,g1,g2⟩:=aC hb D SR;have A:x=.pointer (some ⟨Y,0,none⟩):=by
       have:F[i]?=some x:=by simpa using h2
       rw[g2] at this;exact(aq this).symm
      subst A;exact⟨⟨_,rfl,rfl⟩,bx,hb,yZ D.symm,λ_=>⟨Y,cap,g1,rfl⟩⟩
   unfold AU JC at g;unfold oj at v1;cases hq:Nat.blt QA 10000000 with
   | true =>
     rw[hq] at g v1;have C:gk γ σ.mem w (c.args.toList.map (bG σ)++E.map λb=>.ptr b.1 b.2 []) (c.args.map a.eval++F).toList:=by
      rw[Hg,Hi];exact(uG h).append J
     refine sg (f:=QA) (xs:=c.args.map a.eval++F) ?_ (rL H R h O C g M);unfold execOp;simp only[L,resolve,j,Deferred.ofValue,v1,cd,Sem.run_bind,Sem.run_pure,Result.andThen_ok,invoke];simp
   | false =>
     rw[hq] at g v1;have C:gk γ σ.mem w ((E.map λb=>.ptr b.1 b.2 [])++c.args.toList.map (bG σ)) (F++c.args.map a.eval).toList:=by
      rw[Hg,Hi];exact J.append (uG h)
     refine sg (f:=QA % 10000000) (xs:=F++c.args.map a.eval) ?_ (rL H R h O C g M);unfold execOp;simp only[L,resolve,j,Deferred.ofValue,v1,fk,Sem.run_bind,Sem.run_pure,Result.andThen_ok,invoke];simp
  .exact absurd l (by intro k;cases k)
 ·
  rename_i r V j;unfold kT at l;split at l
  .rename_i cn O5;split at l
   .rename_i x aV A;obtain⟨y,hy,g⟩:=bo l;obtain rfl:=aq g;have C:gk γ σ.mem w (bG σ r::c.args.toList.map (bG σ)) (a.eval r::(c.args.map a.eval).toList):=by
     rw[Hi];exact uG (ops:=r::c.args.toList) h
    obtain⟨J6,s1,s2,s3⟩:=lj h C A;obtain⟨f,u,e1,e2,e3⟩:=H.inv V cn O5 J6.I w (a.eval r) _ x y (λb o U=>s1.ok.lX b o U) s1.ok.A2 s3 hy;refine sg (f:=f) (xs:=(u::(c.args.map a.eval).toList).toArray) ?_ ⟨e2,e3.mono λe w' hw=>?_⟩
    .rw[<-e1];unfold execOp;simp only[L,resolve,j,Sem.run_bind,Sem.run_pure,Result.andThen_ok,invoke];exact congrArg (λz:Sem Next=>z.run P w) (HF (λv=>callMethod v V) (a.eval r)<|Array.map a.eval c.args)
    .obtain⟨v,I',h1,h2,h3,h4,h5,h6⟩:=hw;refine⟨v,h1,?_⟩;obtain⟨m1,m2⟩:=s1.ok.OS (I':=I') h2 h3 h4 h5;refine M ⟨I',J6.loc⟩ _ w' (s1.aA m2 m1 O<|h6.rep λ_ _ U=>U) ?_;cases o.dst<;>exact s2.trans m2
   .exact absurd l (by intro k;cases k)
  .exact absurd l (by intro k;cases k)
theorem Db{I:Nat->Nat->Prop}{c:TypeId}{u:Nat}:∀{t:Ty} {a:Ty} {f:a.den->t.den},Den P t c->CN t u=some ⟨a,f⟩ ->
  P.concrete u=true/\∀(y:a.den) (cs:List Value),bg w I a y cs->bg w I t (f y) [.iface u<|bX a cs]:=by
 intro t;induction t with
 | alt n a r m e =>
   intro b f i h;unfold CN at h;obtain⟨l,o⟩:=i.rest;cases j:Nat.beq n u with
   | true =>
     rw[j] at h;obtain rfl:=cG j;cases h;exact⟨o,λy cs k=>⟨l.JO i,cs,rfl,k⟩⟩
   | false =>
     rw[j] at h;simp only[fk] at h;split at h
     .rename_i v g p;cases h;obtain⟨q,s⟩:=e l p;exact⟨q,λy cs k=>s y cs k⟩
     .cases h
 | _=>intro b f i h;cases h
theorem L6{c:TypeId}{u:Nat}{t:Ty}{a:Ty}{f:a.den->t.den}(e:Den P t c)(h:CN t u=some ⟨a,f⟩):t.isAgg=false:=by
 cases t with
 | alt n b r=>simp only[Den,ed,cA] at e;exact(Ty.w9 e.2).2
 | _=>cases h
theorem vL(n:df P cx){o u:TypeId}{x:Operand}(h:b6 B N γ σ a w)(p:∀k,d=some k->k<N)(c:(kS cx d o u (bG σ x) σ).run=some aB) :
  iz P B N γ σ a w d (Instr.makeInterface u<|a.eval x) aB:=by
 unfold kS at c;split at c
 .rename_i t q;have e:=n.T _ _ q;split at c
  .rename_i b f l;split at c
   .rename_i y aV r;obtain rfl:=aq c;obtain⟨g,s,v,m,z,A⟩:=iH h (h.bG x) r;obtain⟨C,D⟩:=Db (w:=w) (I:=g.I) e l;have i:a.eval x=bX b m:=by simpa using A
    have j:=L6 e l;refine⟨.iface u<|a.eval x,w,g,run_makeInterface w u _ C,s.mP p ⟨_,D y m z,?_⟩,?_⟩
    .rw[i];unfold bX;rw[j];rfl
    .cases d<;>exact v
   .exact absurd c (by intro k;cases k)
  .exact absurd c (by intro k;cases k)
 .exact absurd c (by intro k;cases k)
theorem vd{o:Oper}{s:Sem ah}{K:Act->World->Prop}{Q:Exit->Act->World->Prop}(c:execOp a.eval o=(do s;pure .skip))(b:o.dst=none)
  (h:∃w' bc,s.run P w=.ok () w'/\b6 B N bc aB a w'/\Ext B γ σ.mem w bc aB.mem w') (e:qo B N γ σ a w o.dst aB K):o.wp P a w K Q:=by
 obtain⟨w',bc,f,g,i⟩:=h;unfold Oper.wp;rw[c];simp only[Sem.run_bind,f,Result.andThen_ok,Sem.run_pure,Oper.upon_skip];exact e bc _ w' (by rw[b];exact g) i
theorem nF{d:Option Nat}{k:Nat}(h:ownRow bf d=some k):d=some k:=by
 unfold ownRow at h;split at h
 .rename_i d;cases b:bJ bf (4000000+d) with
  | false=>rw[b] at h;cases h
  | true=>rw[b] at h;obtain rfl:=aq h;rfl
 .cases h
theorem si{d:Option Nat}{k:Nat}(h:CM bf d=some k):d=some k/\bJ bf k=true:=by
 unfold CM at h;split at h
 .rename_i d;cases b:bJ bf d with
  | false=>rw[b] at h;cases h
  | true=>rw[b] at h;obtain rfl:=aq h;exact⟨rfl,b⟩
 .cases h
theorem xA(A:df P cx)(T:jy P B.G cx)(U:nE P B.G inl){o:Oper}(h:b6 B N γ σ a w)(m:∀k,o.dst=some k->k<N)
  (g:(kd cx nb bf inl o σ).run=some aB) {K:Act->World->Prop} {Q:Exit->Act->World->Prop} (C:qo B N γ σ a w o.dst aB K):o.wp P a w K Q:=by
 unfold kd at g;split at g
 case h_1 x j=>exact bk (s:=pure (a.eval x)) (by simp only[execOp,j];rfl) (oA A h m g) C
 case h_2 x j=>exact bk (s:=pure (a.eval x)) (by simp only[execOp,j];rfl) (oA A h m g) C
 case h_3 c x y j=>exact bk (s:=do pure (if <-asBool (a.eval c) then a.eval x else a.eval y)) (by simp only[execOp,j];simp[bind_assoc]) (xe h m g) C
 case h_4 elem j =>
  split at g
  .rename_i k t D H;rw[D] at m;refine bk (s:=Instr.alloc elem true (.tuple #[])) (by simp only[execOp,j]) ?_ C;rw[D];exact vD A h (m k rfl) H g
  .rename_i k D H;rw[D] at m;refine bk (s:=Instr.alloc elem true (.tuple #[])) (by simp only[execOp,j]) ?_ C;rw[D];split at g
   .rename_i fs hO;exact vC A h (m k rfl) hO g
   .obtain⟨h1,r⟩:=ak g;exact vB A h (m k rfl) h1 r
  .exact absurd g (by intro k;cases k)
 case h_5 elem x j =>
  unfold sQ at g;split at g
  .exact absurd g (by intro k;cases k)
  .exact absurd g (by intro k;cases k)
  .rename_i k D h1 h2;rw[D] at m;refine bk (s:=Instr.box elem (a.eval x)) (by simp only[execOp,j]) ?_ C;rw[D];split at g
   .exact y7 h (m k rfl) h1 h2 g
   .exact Hz h (m k rfl) h1 h2 g
  .exact absurd g (by intro k;cases k)
 case h_6 t parts j =>
  refine bk (s:=Instr.build t (parts.map λ(i,x)=>(i,a.eval x))) (by simp only[execOp,j]) ?_ C;split at g
  .rename_i u v H;split at g
   .rename_i d0 k hz;obtain⟨D,V⟩:=qk hz;have V:parts=#[]:=by simpa using V
    rw[D,V];rw[D] at m;rw[Array.map_empty];exact xn A h (m d0 rfl) H g
   split at g
   .rename_i x aV F;obtain rfl:=aq g;exact sb A h m H F
   .exact absurd g (by intro k;cases k)
  .rename_i n e H;split at g
   .rename_i l aV F;obtain rfl:=aq g;exact te A h m H F
   .exact absurd g (by intro k;cases k)
  .split at g
   .rename_i fs hO;split at g
    .rename_i z0 W;split at g
     .rename_i p q F;obtain rfl:=aq g;exact vG A h m hO W F
     .rename_i u F;obtain rfl:=aq g;exact ux A h m hO W F
     .exact absurd g (by intro k;cases k)
    .exact absurd g (by intro k;cases k)
   .exact absurd g (by intro k;cases k)
  .exact absurd g (by intro k;cases k)
 case h_7 t n parts j =>
  refine bk (s:=Instr.buildSlice t n (parts.map λ(i,x)=>(i,a.eval x))) (by simp only[execOp,j]) ?_ C;split at g
  .rename_i e H;split at g
   .rename_i k X L;obtain⟨D,_⟩:=si X;have V:parts=#[]:=by simpa using L
    rw[D,V];rw[D] at m;rw[Array.map_empty];exact uz A h (m k rfl) H g
   .obtain⟨hn,r⟩:=ak g;split at r
    .rename_i l aV F;split at r
     .rename_i k D;have QB:=nF D;rw[QB] at m⊢;exact xo A h (m k rfl) H hn F r
     .obtain rfl:=aq r;exact uy A h m H hn F
    .exact absurd r (by intro k;cases k)
  .exact y9 A h m g
  .exact absurd g (by intro k;cases k)
 case h_8 t x j=>exact bk (s:=Instr.loadAt t (a.eval x)) (by simp only[execOp,j]) (xh A h m g) C
 case h_9 t x y j =>
  split at g
  .rename_i D;cases hq:bJ bf 8000001&&o7 y with
   | true =>
     rw[hq] at g;exact vd (s:=Instr.storeAt t (a.eval x) (a.eval y)) (by simp only[execOp,j]) D (y5 A (Ji.1 hq).2 h g) C
   | false =>
     rw[hq] at g;exact vd (s:=Instr.storeAt t (a.eval x) (a.eval y)) (by simp only[execOp,j]) D (vA A h g) C
  .exact absurd g (by intro k;cases k)
 case h_10 x j =>
  have hv:=h.bG x;have fin:∀{v:ax} {y:Value},a.eval x=y->execOp a.eval o=(do pure<|.value (<-(pure y:Sem Value)))->bw γ σ.mem w v .val [y]->aB=σ.aA o.dst v->o.wp P a w K Q:=by
   intro v y he hs NU SS;subst SS;exact bk (s:=pure y) hs (bd h m rfl NU) C
  split at g
  .rename_i b au p J;rw[J] at hv;obtain⟨hl,r⟩:=ak g;obtain⟨bx,F,Y⟩:=gj hl;obtain⟨blk,cap,I,O⟩:=aC F Y hv.2;have O:=pY O;rw[O] at hv;exact fin O (by simp only[execOp,j,O];rfl) hv (aq r).symm
  .rename_i t y J;rw[J] at hv;obtain⟨blk,off,cs,I,O,g3⟩:=id hv;have I:=pY I;rw[I] at hv;exact fin I (by simp only[execOp,j,I];rfl) hv (aq g).symm
  .rename_i f c J;rw[J] at hv;obtain⟨arr,I,O,g3⟩:=id hv;have I:=pY I;rw[I] at hv;exact fin I (by simp only[execOp,j,I,oj];cases Nat.blt f 10000000<;>rfl) hv (aq g).symm
  .exact absurd g (by intro k;cases k)
 case h_11 op xt x y pos j =>
  obtain⟨v,F,r⟩:=bind_some g;obtain rfl:=aq r;obtain⟨z,Z,z2⟩:=EE (P:=P) (x:=x) (y:=y) A (h.bG x) (h.bG y) F;refine bk (s:=eE op xt x y (a.eval x) (a.eval y)) (by simp only[execOp,j,eE]) (bd h m Z z2) C
 case h_12 op ty x j =>
  obtain⟨v,F,r⟩:=bind_some g;obtain rfl:=aq r;obtain⟨z,Z,z2⟩:=JU (P:=P) (h.bG x) F;exact bk (s:=Op.unary op (a.eval x)) (by simp only[execOp,j]) (bd h m Z z2) C
 case h_13 src dst x j=>exact bk (s:=convert src dst (a.eval x)) (by simp only[execOp,j]) (tf A h m g) C
 case h_14 f first M j =>
  split at g
  .rename_i cs E R;obtain⟨S,g⟩:=ak g;obtain rfl:=aq g;refine bk (s:=Instr.makeFunc (.func f) #[] (M.map a.eval)) ?_ (xk h m R S) C;have:first=#[]:=by simpa using E
   simp only[execOp,j,this,show Array.map a.eval #[]=#[] from by simp]
  .rename_i x E R;have e1:first=#[x]:=cZ E
   have e2:M=#[]:=by
    have:=(xj h R).1;exact Array.eq_empty_of_size_eq_zero (by simpa using this.symm)
   split at g
   .rename_i cs J;obtain⟨S,g⟩:=ak g;obtain rfl:=aq g;refine bk (s:=Instr.makeFunc (.func f) #[a.eval x] #[]) ?_ (vE h m J S) C;simp only[execOp,j,e1,e2,show Array.map a.eval #[]=#[] from by simp,show Array.map a.eval #[x]=#[a.eval x] from by simp]
   .exact absurd g (by intro k;cases k)
  .exact absurd g (by intro k;cases k)
 case h_15 t x lo hi j=>exact bk (s:=Instr.sliceAt t (a.eval x) (lo.map a.eval) (hi.map a.eval) none) (by simp only[execOp,j];rfl) (vz A h m g) C
 case h_16 s x k j=>exact bk (s:=Instr.fieldAt s (a.eval x) k) (by simp only[execOp,j]) (ry A h m g) C
 case h_17 xt x k j =>
  have hv:=h.bG x;split at g
  .rename_i u y J;rw[J] at hv;obtain⟨H,r⟩:=ak g;split at r
   .rename_i off v hf;obtain rfl:=aq r;obtain⟨z,Z,z2⟩:=CX (P:=P) A (fq H) hv hf;exact bk (s:=Instr.field xt (a.eval x) k) (by simp only[execOp,j]) (bd h m Z z2) C
   .exact absurd r (by intro k;cases k)
  .exact absurd g (by intro k;cases k)
 case h_18 t x i j =>
  split at g
  .rename_i ki n hi;have hv:=h.bG i;rw[hi] at hv;obtain⟨ei,_⟩:=lZ hv;refine bk (s:=Instr.indexAt t (a.eval x) (a.eval i)) (by simp only[execOp,j]) ?_ C;rw[ei];cases hm:bJ bf 5000000 with
   | true=>rw[hm] at g;exact vx A h m g
   | false=>rw[hm] at g;exact mg A h m g
  .exact absurd g (by intro k;cases k)
 case h_19 t x i j =>
  split at g
  .rename_i ki n hi;have hv:=h.bG i;rw[hi] at hv;obtain⟨ei,_⟩:=lZ hv;refine bk (s:=Instr.index t (a.eval x) (a.eval i)) (by simp only[execOp,j]) ?_ C;rw[ei];exact vy A h m g
  .exact absurd g (by intro k;cases k)
 case h_20 t l c j =>
  split at g
  .rename_i k e kl ln kc cn D H hl SU;rw[D] at m;obtain⟨HD,r⟩:=bM g;obtain⟨hf,J0⟩:=bM r;refine bk (s:=Instr.makeSlice t (a.eval l) (a.eval c)) (by simp only[execOp,j]) ?_ C;rw[D];exact vH A h (m k rfl) H hl SU HD hf J0
  .exact absurd g (by intro k;cases k)
 case h_21 t k j =>
  split at g
  .rename_i vs J;split at g
   .rename_i v hn;obtain rfl:=aq g;exact bk (s:=Instr.extract (a.eval t) k) (by simp only[execOp,j]) (y8 h m J hn) C
   .exact absurd g (by intro k;cases k)
  .exact absurd g (by intro k;cases k)
 case h_22 c j=>exact ER A T U j h m g C
 case h_23 u x j=>exact bk (s:=Instr.makeInterface u (a.eval x)) (by simp only[execOp,j]) (vL A h m g) C
 case h_24=>exact absurd g (by intro k;cases k)
end
end Go.Ge
