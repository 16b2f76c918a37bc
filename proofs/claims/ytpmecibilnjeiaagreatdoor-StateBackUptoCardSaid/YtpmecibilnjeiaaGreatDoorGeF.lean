/- A ghost interpreter of the model's code, and that it tells the truth: part 6. It says of a function of plain data what a call of it comes to. -/
import Derived.Test.YtpmecibilnjeiaaGreatDoorGeE
import Derived.Laws.Build
set_option linter.unusedVariables false
set_option linter.unusedSimpArgs false
set_option linter.unusedSectionVars false
open Go.IntKind (i64)
namespace Go.Ge
open RowKit
def vn(P:Program)(G:fD)(inl:Nat->List aL->St->Tree (aL×St)):Prop :=
 ∀(B:qM) (γ:Gh) (σ bb:St) (w:World) (f:Nat) (b:List aL) (h:Array Value) (v:aL),B.G=G->bu B γ σ.mem w->lz γ σ.mem w b h.toList->(inl f b σ).run=some (v,bb) ->
  (∃fn c,P.funcs[f]?=some fn/\(fn.name == "runtime.NumGoroutine")=false/\fn.body=some c)/\bb.slots=σ.slots /\
  Calls P f h w λe w'=>∃g bM,e=.returned g/\bu B bM bb.mem w'/\Ext B γ σ.mem w bM bb.mem w'/\cf bM bb.mem w' v .val [g]
section
variable {P:Program} {B:qM} {N:Nat} {γ:Gh} {σ bb:St} {a:Act} {w w':World} {d:Option Nat} {cx:Ctx} {nb:Nat} {bf:List Nat} {inl:Nat->List aL->St->Tree (aL×St)}
def Bp(B:qM)(N:Nat)(c:Gh)(e:St)(a:Act)(w:World)(d:Option Nat)(b:St)(K:Act->World->Prop):Prop :=
 ∀bM v w',cM B N bM b (a.put d v) w'->Ext B c e.mem w bM b.mem w'->K (a.put d v) w'
theorem OL{f:Nat}{e:Func}{c:Code}(h:P.funcs[f]?=some e)(i:(e.name == "runtime.NumGoroutine")=false)(j:e.body=some c)(b:Array Value)(w:World) :
  (callFunc f b).run P w=.ok (.enter f b) w:=by
 have g:¬e.name = "runtime.NumGoroutine":=by simpa using i
 simp[callFunc,h,g,j]
theorem bQ{o:Oper}{s:Sem Value}{K:Act->World->Prop}{Q:Exit->Act->World->Prop}(b:execOp a.eval o=(do pure<|.value (<-s)))(h:mP P B N γ σ a w o.dst s bb)(c:Bp B N γ σ a w o.dst bb K):o.wp P a w K Q:=by
 obtain⟨v,w',bM,e,f,g⟩:=h;unfold Oper.wp;rw[b];simp only[Sem.run_bind,e,Result.andThen_ok,Sem.run_pure];exact c bM _ w' f g
theorem E4{ops:List Operand}(h:cM B N γ σ a w):lz γ σ.mem w (ops.map<|cu σ) (ops.map a.eval):=by
 refine⟨by simp,λi v x b c=>?_⟩;rw[wH] at b c;cases e:ops[i]? with
 | none=>rw[e] at b;cases b
 | some o =>
   rw[e] at b c;obtain rfl:=aG b;obtain rfl:=aG c;exact h.cu o
theorem lz.append{b:Nat->Option bB}{g j:List aL}{xs l:List Value}(h:lz γ b w g xs)(k:lz γ b w j l):lz γ b w (g++j) (xs++l):=by
 refine⟨by simp[h.1,k.1],λi v x e c=>?_⟩;rw[Oj] at e c;rw[h.1] at c;split at e
 .rename_i f;rw[aV f] at c;exact h.2 i v x e c
 .rename_i f;rw[aX f] at c;exact k.2 _ v x e c
theorem bu.drop{g:Nat->Option bB}{w':World}(h:bu B γ g w){b:Nat}{j bx:bB}(y:g b=some j)(m:j.aM<bx.aM)(p:tX B w w')
  (n:∀k,k<w.heap.size->(∀c,γ.loc b≠some (k,c))->w'.heap[k]?=w.heap[k]?) (l:∀k o,k<w.heap.size->w'.cell? ⟨k,o,none⟩=w.cell? ⟨k,o,none⟩)
  (r:cB (bF γ b none) (cD g b bx) w' b bx):bu B (bF γ b none) (cD g b bx) w'/\Ext B γ g w (bF γ b none) (cD g b bx) w':=by
 have hx:Ext B γ g w (bF γ b none) (cD g b bx) w' :=
  { below:=p
    I:=λ_ _ x=>x
    ox:=λ_ _ x=>.inl x
    cells:=λblk o x=>l blk o (h.sg blk o x)
    boxes:=λc cx f=>by
     by_cases e:c=b
     .subst e;obtain rfl:j=cx:=aG (y.symm.trans f);exact⟨bx,bp _ _,Zi m,λe=>absurd e (by omega)⟩
     .exact⟨cx,by rw[aS _ e];exact f,bZ _,λ_=>⟨by simp[bF,e],rfl,rfl⟩⟩ }
 refine⟨?_,hx⟩;exact
  { cT:=h.C2 hx
    base:=fM h.base p.size
    boxes:=λc cx f=>by
     by_cases e:c=b
     .subst e;rw[bp] at f;obtain rfl:=aG f;exact r
     .rw[aS _ e] at f;refine(h.boxes c cx f).keep hx (by simp[bF,e]) λblk k z=>n blk (h.fresh c blk k (by rw[f];simp) z).2 λs t=>e ?_;exact h.inj c b blk k s (by rw[f];simp) (by rw[y];simp) z t
    inj:=λc d blk k s f A i q=>by
     by_cases e:c=b
     .simp only[bF,aV e] at i;cases i
     .by_cases u:d=b
      .simp only[bF,aV u] at q;cases q
      .simp only[bF,aX e] at i;simp only[bF,aX u] at q;rw[aS _ e] at f;rw[aS _ u] at A;exact h.inj c d blk k s f A i q
    fresh:=λc blk k f i=>by
     by_cases e:c=b
     .simp only[bF,aV e] at i;cases i
     .simp only[bF,aX e] at i;rw[aS _ e] at f;have:=h.fresh c blk k f i;exact⟨this.1,A9 this.2 p.size⟩
    sg:=λblk off v=>A9 (h.sg blk off v) p.size
    sep:=λc cx blk k off f i v=>by
     by_cases e:c=b
     .simp only[bF,aV e] at i;cases i
     .simp only[bF,aX e] at i;rw[aS _ e] at f;exact h.sep c cx blk k off f i v }
theorem QW{c:Nat->Option bB}{b:Nat}{f:bB}(h:c b=some f):cD c b f=c:=by
 funext i;by_cases e:i=b
 .subst e;rw[bp,h]
 .rw[aS _ e]
theorem Lv{f:Nat}{s:WG}{Y:List aL}{xs:Array Value}(hs:fK P f s)(h:cM B N γ σ a w)(hd:∀k,d=some k->k<N)(hv:lz γ σ.mem w Y xs.toList)
  (G:(Au s d Y σ).run=some bb) {K:Act->World->Prop} (hK:Bp B N γ σ a w d bb K) :
  (∃fn code,P.funcs[f]?=some fn/\(fn.name == "runtime.NumGoroutine")=false/\fn.body=some code)/\Calls P f xs w λe w'=>∃v,e=.returned v/\K (a.put d v) w':=by
 unfold Au at G;split at G
 .rename_i T b aM;split at G
  case h_2=>cases G
  rename_i bx Z;split at G
  case h_2=>cases G
  rename_i b' v' u un D;obtain⟨n,I⟩:=ay G;obtain rfl:=aG I;simp only[dv,j7] at n;obtain⟨⟨⟨⟨⟨⟨⟨⟨c1,c2⟩,c3⟩,c4⟩,U⟩,c6⟩,c7⟩,c8⟩,c9⟩:=n;have c1:=eX c1;have U:=eX U;have c7:=eX c7;have c8:=eX c8;have c6:0<T:=by simpa using c6
  subst c7;subst c8;obtain⟨val,J,hxs,g1,g2⟩:=hv.cons;have r:J=[]:=by have:=g2.1;simpa using this
  subst r;obtain⟨i,m,hl,V⟩:=bg Z c1 g1.2;have V:=ue V;simp only[cC] at V;obtain rfl:xs=#[.pointer<|some ⟨i,0,none⟩]:=by apply BU.1;rw[hxs,V]
  have t:=h.ok.boxes b' bx Z;unfold cB at t;rw[c2] at t;obtain⟨abF,abG,z,tid,fr,a1,a2,a3,F,a5⟩:=t;rw[hl] at a1;obtain⟨rfl,rfl⟩:=bk (aG a1);have L:tid=T:=by
   rcases F with F|F
   .rw[U] at F;exact absurd F (Zj c6)
   .rw[F,U]
  subst L;rw[D] at a5;obtain⟨cs1,cs2,e1,e2,e3⟩:=a5;obtain⟨cs3,cs4,e4,e5,e6⟩:=e3;obtain⟨⟨p,rfl,hp1⟩,hp2⟩:=e2;obtain⟨q,hq⟩:∃q,cs3=[q]:=by
   cases u<;>first|(cases c9;done)|skip
   obtain⟨⟨q,hq,_⟩,_⟩:=e5;exact⟨q,hq⟩
  subst hq;obtain rfl:cs4=[]:=e6;have M:z=#[p,q]:=by apply BU.1;rw[e1,e4];rfl
  subst M;obtain⟨ajF,ag6,j1,j2⟩:=bg Z c1 hp2;rw[hl] at j1;obtain⟨rfl,rfl⟩:=bk (aG j1);have j2:p=.pointer none\/p=.pointer (some ⟨i,0,none⟩):=j2.imp ue ue;refine⟨hs.1,(hs.2 w i p q fr a2 (a3 0<|by simp) j2).mono λe w' H=>?_⟩;obtain⟨rfl,H⟩:=H;refine⟨_,rfl,?_⟩;have abO:∀{bM:Gh} {dO:Nat->Option bB} {w':World},cf bM dO w' (.yC .nl) .val [.tuple #[]]:=λ{_ _ _}=>⟨#[],rfl,rfl⟩;rcases H with rfl|rfl
  .refine hK γ _ _ (h.ur hd abO) ?_;cases d<;>exact Ext.refl _ _ _ _
  .have A:({ bx with val:=bx.val }:bB)=bx:=by cases bx;rfl
   obtain⟨m1,m2⟩:=h.ok.write Z c4 hl a2 (cur':=#[.pointer<|some ⟨i,0,none⟩,q]) (v:=bx.val) (by simp) (by rw[A])
    (λw' dO hx hg=>by
     rw[A];unfold cB;rw[c2];refine⟨i,m,_,tid,fr,hl,hg,λo ho=>a3 o (by simpa using ho),F,?_⟩;rw[D];refine⟨[.pointer<|some ⟨i,0,none⟩],[q],rfl,?_,[q],[],rfl,e5.ext hx,rfl⟩;have hp3:mO dO b' v' λ_=>∃i m,γ.loc b'=some (i,m):=by
      obtain⟨bx0,k1,k2,k3⟩:=hp2;obtain⟨si,q1,q2,C⟩:=hx.boxes b' bx0 k1;exact⟨si,q1,fM k2 q2,λ_=>⟨i,m,hl⟩⟩
     obtain⟨si,q1,q2,C⟩:=hp3;exact⟨⟨_,rfl,rfl⟩,si,q1,q2,λ_=>⟨i,m,hl,.inr rfl⟩⟩)
   rw[A,QW Z] at m1 m2;refine hK γ _ _ (h.aW m2 m1 hd abO) ?_;cases d<;>exact m2
 .rename_i T E b aM;split at G
  case h_2=>cases G
  rename_i bx Z;split at G
  case h_2=>cases G
  rename_i b' v' hh hv' un D;obtain⟨n,I⟩:=ay G;simp only[dv,j7] at n;obtain⟨⟨⟨⟨c1,c2⟩,U⟩,c6⟩,c7⟩:=n;have c1:=eX c1;have U:=eX U;have c6:0<T:=by simpa using c6
  split at I
  case h_2=>cases I
  rename_i hx W;obtain⟨n,hr3⟩:=ay I;simp only[dv,j7] at n;obtain⟨⟨⟨⟨d1,d2⟩,d3⟩,d4⟩,d5⟩:=n;have d1:=eX d1;have d4:=eX d4;have d5:0<E:=by simpa using d5
  split at hr3
  case h_2=>cases hr3
  rename_i l hhv;change List Int at l;obtain rfl:=aG hr3;obtain⟨val,J,hxs,g1,g2⟩:=hv.cons;have r:J=[]:=by have:=g2.1;simpa using this
  subst r;obtain⟨i,m,hl,V⟩:=bg Z c1 g1.2;have V:=ue V;simp only[cC] at V;obtain rfl:xs=#[.pointer<|some ⟨i,0,none⟩]:=by apply BU.1;rw[hxs,V]
  have t:=h.ok.boxes b bx Z;unfold cB at t;rw[c2] at t;obtain⟨abF,abG,z,tid,fr,a1,a2,a3,F,a5⟩:=t;rw[hl] at a1;obtain⟨rfl,rfl⟩:=bk (aG a1);have L:tid=T:=by
   rcases F with F|F
   .rw[U] at F;exact absurd F (Zj c6)
   .rw[F,U]
  subst L;rw[D] at a5;obtain⟨cs1,cs2,e1,e2,e3⟩:=a5;obtain⟨cs3,cs4,e4,e5,e6⟩:=e3;obtain⟨⟨p,rfl,hp1⟩,hp2⟩:=e2;obtain⟨⟨q,rfl,hq1⟩,hq2⟩:=e5;obtain rfl:cs4=[]:=e6;have M:z=#[p,q]:=by apply BU.1;rw[e1,e4];rfl
  subst M;obtain⟨e',n',k1,k2,k3⟩:=bg W d1 hq2;rw[bB.dk d2 hhv] at k2;obtain⟨rfl,rfl⟩:=bk (aG k2);have O:=h.ok.boxes hh hx W;unfold cB at O;rw[d2] at O;obtain⟨e3,l3,q1,q2,C⟩:=O;rw[hhv] at q1;cases q1;have hlen:(aY l).length=l.length:=by simp[aY]
  let X:bB:={ hx with val:=.data (.slice<|.int .u8) ([]:List Int),aM:=hx.aM+1 }
  have key:∃og:Option Nat,(∀k,og=some k->∃c,γ.loc hh=some (k,c))/\l.length<=maxLen /\
    ((og=none/\q=.slice none 0 0/\aY l=[])\/∃(g m:Nat) (z:Array Value) (fr':Nat×Nat),og=some g/\q=.slice (some ⟨g,0,none⟩) (aY l).length m/\w.heap[g]?=some (.cells z E fr')/\(aY l).length<=m/\m<=maxLen/\z.size=m/\∀(j:Nat) (x:UInt8),(aY l)[j]?=some x->z[j]?=some (Value.int .u8 x.toNat)):=by
   rcases k3 with ⟨k3,k4⟩|⟨g,Q,k3,k4⟩
   .rcases C with ⟨_,C⟩|⟨_,_,_,_,_,C,_⟩
    .subst C;exact⟨none,(λk S=>by cases S),mK _,.inl ⟨rfl,ue k4,rfl⟩⟩
    .rw[k3] at C;cases C
   .rcases C with ⟨C,_⟩|⟨g',aiN,R,ag8,frg,C,q4,q5,q6,q7,q8,q9,q10⟩
    .rw[k3] at C;cases C
    .rw[k3] at C;obtain⟨rfl,rfl⟩:=bk (aG C);have htg:ag8=E:=by
      rcases q6 with q6|q6
      .rw[d4] at q6;exact absurd q6 (Zj d5)
      .rw[q6,d4]
     subst htg;have ae9:(Ty.int IntKind.u8).size=1:=rfl;have q7':l.length<=Q:=q7;refine⟨some g,λk S=>⟨Q,by rw[k3,aG S]⟩,fM q7' q8,.inr ⟨g,Q,R,frg,rfl,?_,q4,by omega,q8,by rw[q9,ae9,Bk],λj x hj=>?_⟩⟩
     .rw[hlen];exact ue k4
     .simp only[aY,wH,r9] at hj;obtain⟨y,hy,rfl⟩:=hj;obtain⟨r1,r2,r3⟩:=q10 j y hy;rw[ae9,Bk] at r1;have afa:(IntKind.u8).min=0:=by decide
      have ZH:(IntKind.u8).max=255:=by decide
      have r2':0<=y:=by have:=r2;rw[afa] at this;exact this
      have r3':y<=255:=by have:=r3;rw[ZH] at this;exact this
      have afb:R.toList[j]?=some (.int .u8 y):=by
       have:((R.toList.drop j).take 1)[0]?=some (.int .u8 y):=by rw[r1];rfl
       simpa [fA,mF] using this
      have hy2:((UInt8.ofNat y.toNat).toNat:Int)=y:=by
       rw[UInt8.toNat_ofNat'];have:y.toNat<256:=by omega
       rw[Nat.mod_eq_of_lt<|by simpa using this];omega
      rw[hy2];simpa using afb
  obtain⟨og,hog,hlm,S⟩:=key;refine⟨hs.1,(hs.2 w i p q fr (aY l) og a2 S).mono λe w' H=>?_⟩;obtain⟨rfl,H⟩:=H;refine⟨_,rfl,?_⟩;have ag9:tX B w w':=⟨H.os,H.tape,H.output,H.size,λk S=>by
   rcases tr k w.heap.size with hlt|hge
   .refine H.block k hlt λe=>S ?_;obtain⟨c,hc⟩:=hog k e;exact(h.ok.fresh hh k c (by rw[W];simp) hc).1
   .exact absurd (.inl<|fM h.ok.base hge) S⟩
  have aha:cB (bF γ hh none) (cD σ.mem hh X) w' hh X:=by
   unfold cB;rw[show X.buf=true from d2];exact⟨.int .u8,[],rfl,q2,.inl ⟨by simp[bF],rfl⟩⟩
  obtain⟨m1,m2⟩:=h.ok.drop (bx:=X) W (Qq _) ag9 (λk S hn=>H.block k S λe=>by obtain⟨c,hc⟩:=hog k e;exact hn c hc) H.cell aha;refine hK (bF γ hh none) _ w' (h.aW m2 m1 hd (v:=.data .str (aY l)) (val:=.string ⟨(aY l).toArray⟩) ?_) ?_
  .exact⟨[.string ⟨(aY l).toArray⟩],⟨rfl,by rw[hlen];exact hlm⟩,rfl⟩
  .cases d<;>exact m2
 .cases G
theorem OM(z:pC P B.G cx)(Z:vn P B.G inl){f:Nat}{j:List aL}{H:Array Value}(h:cM B N γ σ a w)(hd:∀k,d=some k->k<N)(hv:lz γ σ.mem w j H.toList)
  (i:(v7 cx inl d f j σ).run=some bb) {K:Act->World->Prop} (X:Bp B N γ σ a w d bb K) :
  (∃J A,P.funcs[f]?=some J/\(J.name == "runtime.NumGoroutine")=false/\J.body=some A)/\Calls P f H w λe w'=>∃v,e=.returned v/\K (a.put d v) w':=by
 unfold v7 at i;split at i
 .rename_i c hcf;have L:=z.YH f c hcf;refine⟨L.body,?_⟩;split at i
  .rename_i O;split at i
   .rename_i x hx;obtain⟨y,hy,m⟩:=bY i;obtain rfl:=aG m;have R:=Lt (I':=λb o=>b<w.heap.size) h.ok (λb o q=>h.ok.sg b o q) (λb o _ C=>C) hv hx;refine(L.calls (λb o=>b<w.heap.size) w H x y (λb o C=>C) h.ok.Ow R hy).mono λe w' S=>?_;obtain⟨v,I',T,E,W,Y,h5,h6⟩:=S;refine⟨v,T,?_⟩;obtain⟨m1,F⟩:=h.ok.far (I':=γ.I) E (λ_ _ q=>q) (λb o q=>A9 (h.ok.sg b o q) E.size) (λb o q hn=>absurd q hn);refine X γ _ w' (h.aW F m1 hd<|h6.flat O) ?_;cases d<;>exact F
   .exact absurd i (by intro k;cases k)
  .split at i
   .rename_i x bC hx;obtain⟨y,hy,m⟩:=bY i;obtain rfl:=aG m;obtain⟨γ1,s1,s2,s3⟩:=rF h hv hx;refine(L.calls γ1.I w H x y (λb o q=>s1.ok.sg b o q) s1.ok.Ow s3 hy).mono λe w' S=>?_;obtain⟨v,I',T,E,W,Y,h5,h6⟩:=S;refine⟨v,T,?_⟩;obtain⟨m1,F⟩:=s1.ok.far (I':=I') E W Y h5;refine X ⟨I',γ1.loc⟩ _ w' (s1.aW F m1 hd<|h6.rep λ_ _ q=>q) ?_;cases d<;>exact s2.trans F
   .exact absurd i (by intro k;cases k)
 .rename_i hcf;have l:((inl f j σ).bind λr=>.ret (r.2.aW d r.1):Tree St).run=some bb->(∃J A,P.funcs[f]?=some J/\(J.name == "runtime.NumGoroutine")=false/\J.body=some A)/\Calls P f H w λe w'=>∃v,e=.returned v/\K (a.put d v) w':=by
   intro i;obtain⟨r,hr1,m⟩:=bind_some i;obtain rfl:=aG m;obtain⟨v0,Bq⟩:=r;obtain⟨C,hsl,D⟩:=Z B γ σ Bq w f j H v0 rfl h.ok hv hr1;refine⟨C,D.mono λe w' S=>?_⟩;obtain⟨v,bM,T,E,W,Y⟩:=S;refine⟨v,T,?_⟩;have hs0:Bq={ slots:=σ.slots,mem:=Bq.mem }:=by cases Bq;simp only at hsl;subst hsl;rfl
   rw[hs0] at X;refine X bM _ w' (h.aW W E hd Y) ?_;cases d<;>exact W
  split at i
  .rename_i s hcs;exact Lv (z.Ll f s hcs) h hd hv i X
  split at i
  .rename_i c hcr;split at i
   .rename_i x u N M hx;obtain⟨t,i⟩:=ay i;have t:=E0.1 t;obtain⟨y,hy,m⟩:=bY i;obtain rfl:=aG m;have L:=z.Om _ c hcr;rw[show WL f j / 2=f by unfold WL;split<;>omega] at L;obtain⟨V,lu,g1,g2,g3⟩:=Lu hv hx;obtain⟨bs,k1,k2,k3⟩:=Nc h.ok g2 g3;have hlen:=E1 g3;have hold:∀blk∈cO bs (M.map λp=>γ.loc p.1),∃b k,(∃bx,σ.mem b=some bx)/\γ.loc b=some (blk,k):=λblk C=>Ng k1 k3 C;refine⟨L.body,(L.calls γ.I w H lu bs _ x u y (λb o q=>h.ok.sg b o q) h.ok.Ow (λb Q g C=>by
     obtain⟨n,k,⟨bx,j1⟩,j2⟩:=hold b C;exact(h.ok.cT b Q g).1 (h.ok.fresh n b k (by rw[j1];simp) j2).1) g1 k2 (Ga h.ok k1 k3 t) hy).mono λe w' S=>?_⟩
    obtain⟨v,I',ls',T,E,W,Y,h5,h6,h7,h8,h9⟩:=S;refine⟨v,T,?_⟩;obtain⟨m1,F⟩:=h.ok.refs g3 t k1 k3 E W Y h5 h7 h8 h9;have hs:kT c.U y.2 N M σ={ slots:=σ.slots,mem:=(kT c.U y.2 N M σ).mem }:=rfl;refine X ⟨I',ir M ls' γ.loc⟩ _ w' (by rw[hs];exact h.aW F m1 hd (h6.rep λ_ _ q=>q)) ?_;cases d<;>exact F
   .exact l i
  .exact l i
theorem bu.TE{l:Nat->Option bB}{M:World}(h:bu B γ l w){b:Nat}{si:bB}{e:Ty}{l':List e.den}{L:Option (Nat×Nat)}{X:Nat->Prop}{W:Nat->Nat->Prop}{v:Value}
  (Y:∀k,X k->∃g c,l b=some g/\g.ro=false/\γ.loc b=some (k,c)) (t:kZ w γ.I X M W) (G:ux M W e l' L v) (Q:∀f c,L=some (f,c)->X f\/w.heap.size<=f)
  (H:∀g,l b=some g->g.aM<si.aM\/(g.aM=si.aM/\L=γ.loc b/\si.buf=g.buf/\si.row=g.row)) (ZM:si.val=.data (.slice e) l') (R:si.buf=true) (S:si.tid=0) (he:0<e.size) :
  let bM:Gh:=⟨W,λi=>if i=b then L else γ.loc i⟩
  bu B bM (cD l b si) M/\Ext B γ l w bM (cD l b si) M:=by
 intro bM;have p:∀k,k<w.heap.size->¬X k->M.heap[k]?=w.heap[k]?:=λk A T=>t.below.block k λq=>by
  rcases q with q|q
  .have:w.heap.size<=k:=q;omega
  .exact T q
 have O:∀k,X k->∀o,¬γ.I k o:=λk A o z=>by
  obtain⟨g,c,m,s,Z⟩:=Y k A;have:=(h.sep b g k c o m Z z).1;rw[s] at this;cases this
 have U:∀k,¬B.has k->k<w.heap.size:=λk A=>Vt λq=>A (.inl<|fM h.base q);have u:∀k,X k->B.has k/\k<w.heap.size:=λk A=>by
  obtain⟨g,c,m,s,Z⟩:=Y k A;exact h.fresh b k c (by rw[m];simp) Z
 have hx:Ext B γ l w bM (cD l b si) M :=
  { below:=⟨t.below.os,t.below.tape,t.below.output,t.below.size,λk A=>p k (U k A) λT=>A (u k T).1⟩
    I:=t.held
    ox:=λb o x=>by
     by_cases z:γ.I b o
     .exact .inl z
     .exact .inr (.inl<|fM h.base<|t.ox b o x z)
    cells:=λb o z=>di (p b (h.sg b o z) λT=>O b T o z)
    boxes:=λc cx n=>by
     by_cases j:c=b
     .subst j;refine⟨si,bp _ _,?_,λC=>?_⟩
      .rcases H cx n with q|q
       .exact Zi q
       .exact zh q.1
      .rcases H cx n with q|q
       .omega
       .exact⟨by simp[bM,q.2.1],q.2.2⟩
     .exact⟨cx,by rw[aS _ j];exact n,bZ _,λ_=>⟨by simp[bM,j],rfl,rfl⟩⟩ }
 have J:∀f c,L=some (f,c)->f<M.heap.size/\∀o,¬W f o:=λf c D=>by
  rcases G with ⟨q,_⟩|⟨K,cap,cur,tid,fr,q1,q2,q3,q4,q5,q6,q7,q8,q9⟩
  .rw[q] at D;cases D
  .rw[q1] at D;obtain⟨rfl,rfl⟩:=bk (aG D);exact⟨(va.1 q3).1,q8⟩
 have y:∀{c d:Nat},c≠b->cD l b si c≠none->l c≠none:=λn hm=>by rwa [aS _ n] at hm
 have r:∀{d f k c:Nat},d≠b->l d≠none->L=some (f,k)->γ.loc d=some (f,c)->False:=λ{d f k c} hd hm D s=>by
  rcases Q f k D with E|E
  .obtain⟨g,c0,j1,j2,j3⟩:=Y f E;exact hd (h.inj d b f c c0 hm (by rw[j1];simp) s j3)
  .have:=(h.fresh d f c hm s).2;omega
 refine⟨?_,hx⟩;exact
  { cT:=h.C2 hx
    base:=fM h.base t.below.size
    boxes:=λc cx n=>by
     by_cases j:c=b
     .subst j;rw[bp] at n;obtain rfl:=aG n;unfold cB;rw[R];refine⟨e,l',ZM,he,?_⟩;rcases G with ⟨q1,q2,q3⟩|⟨K,cap,cur,tid,fr,q1,q2,q3,q4,q5,q6,q7,q8,q9⟩
      .exact .inl ⟨by simp[bM,q1],q2⟩
      .exact .inr ⟨K,cap,cur,tid,fr,by simp[bM,q1],q3,q4,.inl S,q5,q6,q7,q9⟩
     .rw[aS _ j] at n;refine(h.boxes c cx n).keep hx (by simp[bM,j]) λf k D=>p f (h.fresh c f k (by rw[n];simp) D).2 λE=>?_;obtain⟨g,c0,j1,j2,j3⟩:=Y f E;exact j (h.inj c b f k c0 (by rw[n];simp) (by rw[j1];simp) D j3)
    inj:=λc d f k k' n hd m s=>by
     by_cases j:c=b
     .by_cases C:d=b
      .rw[j,C]
      .exfalso;simp only[bM,aV j] at m;simp only[bM,aX C] at s;exact r C (y (d:=0) C hd) m s
     .by_cases C:d=b
      .exfalso;simp only[bM,aX j] at m;simp only[bM,aV C] at s;exact r j (y (d:=0) j n) s m
      .simp only[bM,aX j] at m;simp only[bM,aX C] at s;exact h.inj c d f k k' (y (d:=0) j n) (y (d:=0) C hd) m s
    fresh:=λc f k n m=>by
     by_cases j:c=b
     .simp only[bM,aV j] at m;refine⟨?_,(J f k m).1⟩;rcases Q f k m with q|q
      .exact(u f q).1
      .exact .inl (fM h.base q)
     .simp only[bM,aX j] at m;have:=h.fresh c f k (y (d:=0) j n) m;exact⟨this.1,A9 this.2 t.below.size⟩
    sg:=t.sg
    sep:=λc cx f k F n m z=>by
     by_cases j:c=b
     .simp only[bM,aV j] at m;exact absurd z ((J f k m).2 F)
     .simp only[bM,aX j] at m;rw[aS _ j] at n;by_cases V:γ.I f F
      .exact h.sep c cx f k F n m V
      .have Z:=t.ox f F z V;have s:=(h.fresh c f k (by rw[n];simp) m).2;omega }
theorem ux.rep{I:Nat->Nat->Prop}{j:Nat->Option (Nat×Nat)}{k:Nat->Option bB}{w:World}{e:Ty}{l:List e.den}{L:Option (Nat×Nat)}{v:Value}{b m:Nat}{bx:bB}(h:ux w I e l L v)
  (f:j b=L) (s:k b=some bx) (g:bx.aM=m) (c:bx.buf=true) (i:bx.val=.data (.slice e) l):cf ⟨I,j⟩ k w (.whole b m) .val [v]:=by
 rcases h with ⟨o,p,q⟩|⟨n,r,t,tid,u,o,p,q,x,y,z,A,C,D⟩
 .exact⟨⟨v,rfl,by rw[q];rfl⟩,en s g ⟨e,l.length,c,bB.dk c i,.inl ⟨by rw[<-o];exact f,by rw[q]⟩⟩⟩
 .exact⟨⟨v,rfl,by rw[p];rfl⟩,en s g ⟨e,l.length,c,bB.dk c i,.inr ⟨n,r,by rw[<-o];exact f,by rw[p]⟩⟩⟩
theorem ZN{j:Nat->Option bB}(h:bu B γ j w){b p:Nat}{k:bB}{e:Ty}{l:List e.den}{v:Value}(y:j b=some k)(q:k.aM=p)(f:k.buf=true)(z:k.ro=false)(g:k.val=.data (.slice e) l)
  (G:cf γ j w (.whole b p) .val [v]):ux w γ.I e l (γ.loc b) v/\0<e.size:=by
 obtain⟨R,n,S,E,c⟩:=bg y q G.2;rw[bB.dk f g] at E;obtain⟨rfl,rfl⟩:=bk (aG E);have m:=h.boxes b k y;unfold cB at m;rw[f] at m;obtain⟨T,U,F,H,i⟩:=m;rw[g] at F;cases F;refine⟨?_,H⟩;rcases i with ⟨i,A⟩|⟨r,s,C,tid,J,i,A,K,V,L,M,O,D⟩
 .rcases c with ⟨c,t⟩|⟨u,x,c,t⟩
  .exact .inl ⟨c,A,ue t⟩
  .rw[i] at c;cases c
 .rcases c with ⟨c,t⟩|⟨u,x,c,t⟩
  .rw[i] at c;cases c
  .rw[i] at c;obtain⟨rfl,rfl⟩:=bk (aG c);refine .inr ⟨r,s,C,tid,J,i,ue t,A,K,L,M,O,λo Q=>?_,D⟩;have:=(h.sep b k r s o y i Q).1;rw[z] at this;cases this
theorem so{e:Ty}{v:aL}{b j:Nat}{k:bB}{l:List e.den}(h:xJ e σ v=some (b,j,k,l)):σ.mem b=some k/\k.aM=j/\k.buf=true/\k.lk=false/\k.ro=false/\k.tid=0 /\
  ∃m:List e.den,k.val=.data (.slice e) m/\((v=.whole b j/\l=m)\/∃n,v=.part b j 0 n/\l=sub m 0 n):=by
 unfold xJ at h;split at h
 .rename_i s g;split at h
  .rename_i c o;cases f:(Nat.beq c.aM g&&c.buf&&!c.lk&&!c.ro&&Nat.beq c.tid 0) with
   | false=>rw[f] at h;cases h
   | true =>
     rw[f] at h;simp only[dv,j7] at f;simp only[ev] at h;split at h
     .rename_i u m i;split at h
      .rename_i t p;obtain⟨q,r⟩:=j9 p;subst q;subst r;cases h;exact⟨o,eX f.1.1.1.1,f.1.1.1.2,f.1.1.2,f.1.2,eX f.2,_,i,.inl ⟨rfl,rfl⟩⟩
      .cases h
     .cases h
  .cases h
 .rename_i s g x n;split at h
  .rename_i c o;cases f:(Nat.beq c.aM g&&c.buf&&!c.lk&&!c.ro&&Nat.beq c.tid 0&&decide (x=0)) with
   | false=>rw[f] at h;cases h
   | true =>
     rw[f] at h;simp only[dv,j7,nE] at f;simp only[ev] at h;split at h
     .rename_i u m i;split at h
      .rename_i t p;obtain⟨q,r⟩:=j9 p;subst q;subst r;cases h;have y:=f.2;subst y;exact⟨o,eX f.1.1.1.1.1,f.1.1.1.1.2,f.1.1.1.2,f.1.1.2,eX f.1.2,_,i,.inr ⟨n,rfl,rfl⟩⟩
      .cases h
     .cases h
  .cases h
 .cases h
theorem TF{p:Nat->Option bB}(h:bu B γ p w){b u:Nat}{q:bB}{e:Ty}{l:List e.den}{n:Int}{v:Value}(D:p b=some q)(y:q.aM=u)(f:q.buf=true)(E:q.ro=false)(j:q.val=.data (.slice e) l)
  (O:cf γ p w (.part b u 0 n) .val [v]):ux w γ.I e (sub l 0 n) (γ.loc b) v/\0<e.size:=by
 obtain⟨X,k,H,Y,Z,k5,J,m,A,k7,k8,Q,k9⟩:=bg D y O.2;rw[bB.dk f j] at H;obtain⟨rfl,rfl⟩:=bk (aG H);have r:=h.boxes b q D;unfold cB at r;rw[f] at r;obtain⟨e3,l3,K,R,c⟩:=r;rw[j] at K;cases K;refine⟨?_,R⟩;obtain A:=ue A;have hlen:(sub l 0 n).length=n.toNat:=by
  have:n.toNat<=l.length:=by omega
  simp only[sub,fT,j8];omega
 rcases Q.2 rfl f with ⟨s,rfl,rfl⟩|⟨t,s,rfl⟩
 .rcases c with ⟨c,C⟩|⟨t,F,z,tid,L,c,_⟩
  .subst C;have:n.toNat=0:=by omega
   exact .inl ⟨s,by simp[sub],by rw[A,this]⟩
  .rw[s] at c;cases c
 .rcases c with ⟨c,C⟩|⟨M,F,z,tid,L,c,C,S,q6,q7,T,U,G⟩
  .rw[s] at c;cases c
  .rw[s] at c;obtain⟨rfl,rfl⟩:=bk (aG c);refine .inr ⟨t,m,z,tid,L,s,by rw[hlen];exact A,C,S,by rw[hlen];omega,T,U,λo V=>?_,λi x W=>G i x ?_⟩
   .have:=(h.sep b q t m o D s V).1;rw[E] at this;cases this
   .have g:((l.drop (0:Int).toNat).take n.toNat)[i]?=some x:=W;rw[fA] at g;split at g
    .simpa using g
    .cases g
theorem Nh{e:Ty}{v:aL}{b m:Nat}{s:bB}{l:List e.den}{j:Value}(o:bu B γ σ.mem w)(h:xJ e σ v=some (b,m,s,l))(p:cf γ σ.mem w v .val [j]):ux w γ.I e l (γ.loc b) j/\0<e.size:=by
 obtain⟨q,c,f,t,k,r,u,g,i⟩:=so h;rcases i with ⟨rfl,rfl⟩|⟨n,rfl,rfl⟩
 .exact ZN o q c f k g p
 .exact TF o q c f k g p
theorem pD{f:Nat}{s:WG}(h:ui cx bf d f=some s):find cx.Ll f=some s:=by
 unfold ui at h;split at h
 .rename_i e b;split at h
  .obtain rfl:=aG h;exact b
  .cases h
 .rename_i b;obtain rfl:=aG h;exact b
 .rename_i b;obtain rfl:=aG h;exact b
 .cases h
theorem G2{f:Nat}{e:Ty}{i:List aL}{s:Array Value}(G:fK P f (.clone e))(h:cM B N γ σ a w)(M:∀k,d=some k->k<N)(O:lz γ σ.mem w i s.toList)
  (g:(lW nb e d i σ).run=some bb) {K:Act->World->Prop} (Q:Bp B N γ σ a w d bb K) :
  (∃t m,P.funcs[f]?=some t/\(t.name == "runtime.NumGoroutine")=false/\t.body=some m)/\Calls P f s w λe w'=>∃v,e=.returned v/\K (a.put d v) w':=by
 unfold lW at g;split at g
 case h_2=>cases g
 rename_i k x;split at g
 case h_2=>cases g
 rename_i l bC R;change List e.den at l;obtain⟨u,g⟩:=ay g;have u:0<e.size:=by simpa using u
 obtain⟨n,g⟩:=cl g;obtain⟨aM,p,y⟩:=dB g;obtain rfl:=aG y;obtain⟨S,r,z,T,U⟩:=O.cons;have j:r=[]:=by have:=U.1;simpa using this
 subst j;obtain⟨A,C,V,W,X,D⟩:=mS h T R;have D:=ue D;refine⟨G.1,(G.2 A.I w s l (λb o Y=>C.ok.sg b o Y) ⟨W,[],by rw[z,D],X,rfl⟩ n).mono λq w' Z=>?_⟩;obtain⟨v,I',L,rfl,h1,H,h3⟩:=Z;refine⟨v,rfl,?_⟩;obtain⟨m1,J⟩:=C.ok.TE (b:=nb+k) (si:={ val:=.data (.slice e) l,tid:=0,buf:=true,ro:=false,lk:=false,aM }) (λ_ hf=>hf.elim) h1 H (λE c hl=>.inr (h3 E c hl))
  (λF h0=>.inl (p F h0)) rfl rfl rfl u
 exact Q _ _ w' (C.step J m1 (M k rfl)<|H.rep (by simp) (bp _ _) rfl rfl rfl) (V.trans J)
theorem Lw{f:Nat}{e A:Ty}{t:Bool}{p:List e.den->A.den->Option (List e.den)}{r:List aL}{T:Array Value}(hs:fK P f (.own e A t p))(h:cM B N γ σ a w)(hd:∀k,d=some k->k<N)(hv:lz γ σ.mem w r T.toList)
  (i:(rB e A t p d r σ).run=some bb) {K:Act->World->Prop} (hK:Bp B N γ σ a w d bb K) :
  (∃U D,P.funcs[f]?=some U/\(U.name == "runtime.NumGoroutine")=false/\U.body=some D)/\Calls P f T w λe w'=>∃v,e=.returned v/\K (a.put d v) w':=by
 unfold rB at i;split at i
 case h_2=>cases i
 rename_i v0 vs;split at i
 case h_2=>cases i
 rename_i x bC hg;split at i
 case h_2=>cases i
 rename_i b V E l F;obtain⟨G,u,i⟩:=bY i;obtain⟨W,H,g,ZG,X,s,l0,J,y⟩:=so F;obtain⟨Y,L,Z,g1,g2⟩:=hv.cons;obtain⟨j,C,s2,z⟩:=rF h g2 hg;obtain⟨M,he⟩:=Nh C.ok F (g1.ext s2);refine⟨hs.1,(hs.2 j.I w T Y L l G (j.loc b) x (λb o hi=>C.ok.sg b o hi) Z M z u).mono λq w' hw=>?_⟩;obtain⟨I',h1,h2⟩:=hw;have hX:∀k,(∃c,j.loc b=some (k,c))->∃m c,bC.mem b=some m/\m.ro=false/\j.loc b=some (k,c):=λk ⟨c,hc⟩=>⟨E,c,W,X,hc⟩;cases t with
 | true =>
   cases d with
   | none=>cases i
   | some k =>
     obtain rfl:=aG i;obtain⟨v',L',rfl,S,h4⟩:=h2;refine⟨v',rfl,?_⟩;obtain⟨m1,O⟩:=C.ok.TE (b:=b) (si:={ E with val:=.data (.slice e) G,aM:=V+1 }) hX h1 S h4 (λm Q=>by
      rw[W] at Q;obtain rfl:=aG Q;exact .inl (by simp[H])) rfl g s he
     exact hK _ _ w' (C.step O m1 (hd k rfl)<|S.rep (by simp) (bp _ _) rfl g rfl) (s2.trans O)
 | false =>
   have hr':HT v0=true/\bb=(bC.b4 b { E with val:=.data (.slice e) G }).aW d (.yC .nl):=by
    cases d with
    | none=>obtain⟨q1,q2⟩:=ay i;exact⟨q1,(aG q2).symm⟩
    | some k=>obtain⟨q1,q2⟩:=ay i;exact⟨q1,(aG q2).symm⟩
   obtain⟨hwh,rfl⟩:=hr';obtain rfl:l=l0:=by
    rcases y with ⟨_,q⟩|⟨n,rfl,_⟩
    .exact q
    .cases hwh
   obtain⟨rfl,R,S⟩:=h2;refine⟨_,rfl,?_⟩;obtain⟨m1,O⟩:=C.ok.TE (b:=b) (si:={ E with val:=.data (.slice e) G }) hX h1 S (λblk c hl=>.inl ⟨c,hl⟩) (λm Q=>by
    rw[W] at Q;obtain rfl:=aG Q;exact .inr ⟨rfl,rfl,rfl,by rw[bB.dk g J,bB.dk (bx:={ E with val:=.data (.slice e) G }) g rfl,R]⟩) rfl g s he
   refine hK _ _ w' (C.aW O m1 hd (v:=.yC .nl) (val:=.tuple #[]) ⟨#[],rfl,rfl⟩) ?_;cases d<;>exact s2.trans O
theorem G3{f g:Nat}{c:List aL}{t:Array Value}(I:fK P f (.CO g))(h:cM B N γ σ a w)(J:∀k,d=some k->k<N)(L:lz γ σ.mem w c t.toList)
  (j:(lX nb g d c σ).run=some bb) {K:Act->World->Prop} (M:Bp B N γ σ a w d bb K) :
  (∃x o,P.funcs[f]?=some x/\(x.name == "runtime.NumGoroutine")=false/\x.body=some o)/\Calls P f t w λe w'=>∃v,e=.returned v/\K (a.put d v) w':=by
 unfold lX at j;split at j
 .cases j
 .cases j
 .rename_i k v y z;obtain⟨A,j⟩:=ay j;obtain⟨C,p,D⟩:=dB j;obtain rfl:=aG D;obtain⟨l,r,E,O,Q⟩:=L.cons;have m:r=[]:=by have:=Q.1;simpa using this
  subst m;obtain⟨R,T,n⟩:=I;obtain⟨m1,F⟩:=h.ok.newVar (b:=nb+k) (v:=v) (tid:=0) p (cs:=l.cells) T (.inl rfl) (O.kV (λu e=>z u e) λe=>absurd e y);have s:t=#[l]:=by apply BU.1;rw[E]
  rw[s];refine⟨R,(n w l).mono λq w' S=>?_⟩;obtain⟨rfl,rfl⟩:=S;refine⟨_,rfl,M _ _ _ (h.step F m1 (J k rfl) ?_) F⟩;refine⟨#[.pointer<|some ⟨w.heap.size,0,none⟩],by unfold wP;rw[A];rfl,rfl,λi b G H=>?_⟩;cases i with
  | zero =>
    obtain⟨rfl,rfl⟩:=bk (aG H);exact en (bx:={ val:=v,tid:=0,buf:=false,ro:=false,lk:=false,aM:=C }) (bp _ _) rfl ⟨w.heap.size,0,by simp[bF],rfl⟩
  | succ i=>cases H
 .cases j
theorem Br(b:pC P B.G cx)(j:vn P B.G inl){f:Nat}{c:List aL}{xs:Array Value}(h:cM B N γ σ a w)(n:∀k,d=some k->k<N)(o:lz γ σ.mem w c xs.toList)
  (i:(tu cx nb bf inl d f c σ).run=some bb) {K:Act->World->Prop} (p:Bp B N γ σ a w d bb K) :
  (∃q l,P.funcs[f]?=some q/\(q.name == "runtime.NumGoroutine")=false/\q.body=some l)/\Calls P f xs w λe w'=>∃v,e=.returned v/\K (a.put d v) w':=by
 unfold tu at i;split at i
 .rename_i e m;exact G2 (b.Ll f _<|pD m) h n o i p
 .rename_i e A r s m;exact Lw (b.Ll f _<|pD m) h n o i p
 .rename_i g m;exact G3 (b.Ll f _<|pD m) h n o i p
 .exact OM b j h n o i p
theorem B8{o:Oper}{f:Nat}{xs:Array Value}{K:Act->World->Prop}{Q:Exit->Act->World->Prop}(g:(execOp a.eval o).run P w=(callFunc f xs).run P w)
  (h:(∃c b,P.funcs[f]?=some c/\(c.name == "runtime.NumGoroutine")=false/\c.body=some b)/\Calls P f xs w λe w'=>∃v,e=.returned v/\K (a.put o.dst v) w'):o.wp P a w K Q:=by
 obtain⟨⟨c,b,i,j,k⟩,l⟩:=h;unfold Oper.wp;rw[g,OL i j k];refine l.mono λe w' m=>?_;obtain⟨v,rfl,n⟩:=m;exact n
theorem QX(L:fv P cx){t ty:TypeId}{v:aL}{x:Value}{n:Int}(M:bu B γ σ.mem w)(D:cf γ σ.mem w v .val [x])(q:VD (find cx.T t) v=true)(f:lenOf σ v=some n) :
  (Builtin.len_ #[t] ty #[x]).run P w=.ok (goInt n) w/\IntKind.i64.min<=n/\n<=IntKind.i64.max:=by
 have Y:(maxLen:Int)<=IntKind.i64.max:=by decide
 have Z:IntKind.i64.min<=0:=by decide
 have i:∀{base:Option Addr} {m c:Nat},(∃e,find cx.T t=some (.slice e))->x=.slice base m c->n=m->m<=maxLen->(Builtin.len_ #[t] ty #[x]).run P w=.ok (goInt n) w/\IntKind.i64.min<=n/\n<=IntKind.i64.max:=by
  intro base m c O hx hn M;obtain⟨e,O⟩:=O;obtain⟨Q,R,_⟩:=(L.T _ _ O).slice;subst hx;subst hn;refine⟨?_,by omega,by omega⟩;simp[Builtin.len_,run_underlying R]
 have j:∀{o:Option Ty},(match o with|some (.slice _)=>true|_=>false)=true->∃e,o=some (.slice e):=by
  intro o h;split at h
  .exact⟨_,rfl⟩
  .cases h
 cases v with
 | data u y =>
   cases u with
   | str =>
     obtain⟨rfl,E⟩:=v8 D;obtain rfl:=aG f;have hT:=(L.T _ _<|iY q).str;have e1:(⟨List.toArray (α:=UInt8) y⟩:ByteArray).size=List.length (α:=UInt8) y:=by
      show(List.toArray (α:=UInt8) y).size=_
      exact GM
     refine⟨?_,?_,?_⟩
     .simp only[Builtin.len_];simp[run_underlying hT,e1,len]
     .simp only[len];omega
     .simp only[len];omega
   | slice e =>
     obtain rfl:=aG f;obtain⟨cs,F,E⟩:=dS.1 D;rcases F with ⟨⟨_,F⟩,S⟩|⟨G,off,s,F,S,h4,_⟩
     .rw[F] at E;exact i ⟨e,iY q⟩ (show x=.slice _ 0 0 from E) (by rw[S];rfl) (mK _)
     .rw[F] at E;exact i ⟨e,iY q⟩ (show x=.slice _ _ _ from E) rfl (fM S h4)
   | arr m e =>
     obtain⟨Q,R,_⟩:=(L.T _ _<|iY q).arr;simp only[lenOf] at f;cases p:Nat.ble m 4294967296 with
     | false=>rw[p] at f;cases f
     | true =>
       rw[p] at f;obtain rfl:=aG f;have:=BT p;have h9:(4294967296:Int)<=IntKind.i64.max:=by decide
       refine⟨by simp[Builtin.len_,run_underlying R],by omega,by omega⟩
   | _=>cases f
 | oq =>
   obtain rfl:=aG f;obtain rfl:x=_:=by simpa [cf] using D
   exact i (j q) rfl rfl (mK _)
 | whole b aM =>
   simp only[lenOf] at f;split at f
   .rename_i H p;cases g:(Nat.beq H.aM aM&&H.buf) with
    | false=>rw[g] at f;cases f
    | true =>
      rw[g] at f;simp only[dv] at g;simp only[ev] at f;split at f
      .rename_i u l z;obtain rfl:=aG f;obtain⟨e',k,U,V,C⟩:=bg p (eX g.1) D.2;rw[bB.dk U z] at V;obtain⟨rfl,rfl⟩:=bk (aG V);rcases C with ⟨C,I⟩|⟨G,s,C,I⟩
       .have J:=M.boxes b H p;rw[cB,U] at J;obtain⟨e3,l3,W,q2,r⟩:=J;rw[z] at W;cases W;rcases r with ⟨_,r⟩|⟨G,s,X,tid,fr,r,_⟩
        .exact i (j q) (ue I) (by rw[r];rfl) (mK _)
        .rw[C] at r;cases r
       .obtain⟨X,tid,fr,W,q2,r,q4,_⟩:=((M.boxes b H p).row C).1 _ l U z;exact i (j q) (ue I) rfl (fM r q4)
      .cases f
   .cases f
 | part b aM lo n' =>
   simp only[lenOf] at f;cases A:live σ b aM with
   | false=>rw[A] at f;cases f
   | true =>
     rw[A] at f;obtain rfl:=aG f;obtain⟨H,p,K⟩:=kf A;obtain⟨e',k,V,C,I,g5,base,s,g6,g7,g8,gF,g9⟩:=bg p K D.2;exact i (j q) (ue g6) (YZ I).symm (fM g7 g8)
 | _=>cases f
theorem eR.take{w:World}{I:Nat->Nat->Prop}{e:Ty}{l:List e.den}{cs:List Value}(h:eR w I e l cs)(k:Nat):eR w I e (l.take k) (cs.take<|k*e.size):=by
 intro i x b;rw[fA] at b;split at b
 .rename_i c;have f:(i+1)*e.size<=k*e.size:=gb _ c;rw[zg] at f;rw[Vu,Bj,pc (by omega)];exact h i x b
 .cases b
theorem eR.drop{w:World}{I:Nat->Nat->Prop}{e:Ty}{l:List e.den}{cs:List Value}(h:eR w I e l cs)(k:Nat):eR w I e (l.drop k) (cs.drop<|k*e.size):=by
 intro i x b;rw[mF] at b;rw[vb,<-gJ];exact h _ x b
theorem zz{α:Type}{l m:List α}{b:Int}(c:0<=b)(h:b+m.length<=l.length):(over l b m).length=l.length:=by
 simp only[over,gI,fT,j8];omega
theorem eR.over{w:World}{I:Nat->Nat->Prop}{e:Ty}{l m:List e.den}{cs b:List Value}{c:Int}(h:eR w I e l cs)(q:eR w I e m b)(k:b.length=m.length*e.size)(r:0<=c)
  (s:c+m.length<=l.length) (A:l.length*e.size<=cs.length):eR w I e (over l c m) (aR cs (c.toNat*e.size) b):=by
 have t:(c.toNat+m.length)*e.size<=l.length*e.size:=gb _ (by omega);rw[gJ] at t;have n:=(h.take c.toNat).append (rest:=[]) q (by rw[fT,fT,pc (by omega),pc (by omega)]) k;rw[y9] at n;have C:=n.append (rest:=[]) (h.drop<|c.toNat+m.length) (by rw[gI,gI,gJ,k,fT,fT,pc (by omega),pc (by omega)]);have u:aR cs (c.toNat*e.size) b=cs.take (c.toNat*e.size)++b++cs.drop ((c.toNat+m.length)*e.size):=by
  simp only[aR,k,gJ]
 rw[u];intro i x f;have hi:i<l.length:=by have:=(fU.1 f).1;rw[zz r s] at this;exact this
 have v:(i+1)*e.size<=l.length*e.size:=gb _ hi;by_cases g:(c.toNat+m.length)*e.size+(l.length-(c.toNat+m.length))*e.size=l.length*e.size
 .have y:eR w I e (Go.Ge.over l c m) (cs.take (c.toNat*e.size)++b++(cs.drop<|(c.toNat+m.length)*e.size)):=by
   intro i x f;by_cases o:i<c.toNat+m.length
   .have j:(l.take c.toNat++m)[i]?=some x:=by
     simp only[Go.Ge.over] at f;rw[Og<|by rw[gI,fT];omega] at f;exact f
    have p:(i+1)*e.size<=(c.toNat+m.length)*e.size:=gb _ o;rw[nK<|by rw[gI,fT,k,pc (by omega),<-gJ];exact p];exact n i x j
   .have j:(l.drop<|c.toNat+m.length)[i-(c.toNat+m.length)]?=some x:=by
     simp only[Go.Ge.over] at f;rw[Ik<|by rw[gI,fT];omega] at f;rw[<-f];congr 1;rw[gI,fT];omega
    have:=h.drop (c.toNat+m.length) _ x j;have z:i*e.size=(cs.take (c.toNat*e.size)++b).length+(i-(c.toNat+m.length))*e.size:=by
     rw[gI,fT,k,pc (by omega),<-gJ,<-gJ];congr 1;omega
    rw[z,<-vb,Bb];exact this
  exact y i x f
 .exact absurd (by rw[<-gJ];congr 1;omega) g
theorem uz(h:cM B N γ σ a w){e:Ty}{m:List e.den}{b S:Nat}{q:List BV}{chk:Nat->Ty->Bool}{g:Int}{base:Option Addr}{f:List Value}
  (hr:(ke e m b S q chk g σ).run=some bb) (hE:eR w γ.I e m f) (hn:f.length=m.length*e.size) (abP:∀u∈f,u.oneCell'=true) (h0:0<=g)
  (ahb:∀bx (l:List e.den),σ.mem b=some bx->bx.aM=S->bx.buf=true->bx.val=.data (.slice e) l->q=[]->g+m.length<=l.length)
  (ahc:∀bx k (l:List e.den),σ.mem b=some bx->bx.aM=S->bx.buf=false->(WH q bx.val).run=some (.data (.arr k e) l)->chk k e=true->g+m.length<=k)
  (T:m=[]\/∃j c,γ.loc b=some (j,c)/\base=some ⟨j,cC q+g.toNat*e.size,none⟩) :
  ∃w',(match base with|some ad=>storeCells ad f|none=>pure ()).run P w=.ok () w'/\cM B N γ bb a w'/\Ext B γ σ.mem w γ bb.mem w':=by
 unfold ke at hr;split at hr
 case h_2=>cases hr
 rename_i bx hb;obtain⟨hcd,t⟩:=ay hr;simp only[dv,j7] at hcd;obtain⟨⟨z,ZG⟩,hro⟩:=hcd;have z:=eX z;have D:=h.ok.boxes b bx hb;have O:m=[]->f=[]:=λhm=>by subst hm;simpa using hn
 have Q:m=[]->(match base with|some ad=>storeCells ad f|none=>pure ()).run P w=.ok () w:=λhm=>by
  rw[O hm];cases base<;>rfl
 have A:∀(j c:Nat) (cur:Array Value) (tid:TypeId) (G:Nat×Nat),γ.loc b=some (j,c)->w.heap[j]?=some (.cells cur tid G)->mi cur G->cC q+g.toNat*e.size+f.length<=cur.size ->
   (match base with|some ad=>storeCells ad f|none=>pure ()).run P w=.ok () (w.setRow j (aR cur.toList (cC q+g.toNat*e.size) f).toArray):=by
  intro j c cur tid G hl hg hth E;rcases T with hm|⟨abF,c',hl',rfl⟩
  .rw[Q hm,O hm];simp only[aR,y9,eG,wL,vV,Array.toArray_toList];rw[setRow_self w j cur tid G hg]
  .rw[hl] at hl';obtain⟨rfl,rfl⟩:=bk (aG hl');have:=cL (P:=P) j (cC q+g.toNat*e.size) tid G f 0 cur w hg hth (by omega) abP;rw[wL] at this;exact this
 split at t
 .rename_i n;split at t
  case h_2=>cases t
  rename_i u l y;split at t
  case h_2=>cases t
  rename_i o U;obtain rfl:=aG t;obtain⟨hq,V⟩:=j9 U;subst hq;obtain rfl:o=m:=V;have E:=ahb bx l hb z n y rfl;have hlen:=zz h0 E;unfold cB at D;rw[n] at D;obtain⟨e2,l2,j1,j2,j3⟩:=D;rw[y] at j1;cases j1;have W:({ bx with val:=.data (.slice e) (over l g o) }:bB).row=bx.row:=by
   rw[bB.dk n y];exact(bB.dk (bx:=⟨.data (.slice e)<|over (α:=e.den) l g o,bx.tid,bx.buf,bx.ro,bx.lk,bx.aM⟩) (l:=over (α:=e.den) l g o) n rfl).trans (by rw[hlen])
  rcases j3 with ⟨R,X⟩|⟨j,cap,cur,tid,G,R,X,k3,H,k4,k5,k6,k7⟩
  .subst X;have hm0:o=[]:=by
    cases o with
    | nil=>rfl
    | cons x r=>simp at E;omega
   subst hm0;have e1:σ.b4 b { bx with val:=.data (.slice e) (over ([]:List e.den) g []) }=σ:=by
    have:({ bx with val:=.data (.slice e) (over ([]:List e.den) g []) }:bB)=bx:=by
     cases bx;simp only at y;subst y;simp[over]
    rw[this];cases σ;simp only[St.b4]
    congr 1
    funext i;by_cases hi:i=b
    .subst hi;simp only[CM,ev];exact hb.symm
    .simp[iW hi]
   rw[e1];exact⟨w,Q rfl,h,Ext.refl _ _ _ _⟩
  .have s:cC ([]:List BV)+g.toNat*e.size+f.length<=cur.size:=by
    have:(g.toNat+o.length)*e.size<=cap*e.size:=gb _ (by omega);rw[gJ] at this;simp only[cC];omega
   have L:=A j cap cur tid G R X k3.th s;have J:g.toNat*e.size+f.length<=cur.toList.length:=by simp only[cC] at s;show _<=cur.size;omega
   have F:(aR cur.toList (g.toNat*e.size) f).toArray.size=cur.size:=by have:=bL J;simpa using this
   obtain⟨m1,m2⟩:=h.ok.write hb hro R X (cur':=(aR cur.toList (g.toNat*e.size) f).toArray) (v:=.data (.slice e) (over l g o)) F W
    (λw' dO hx hg=>by
     show cB γ dO w' b { bx with val:=.data (.slice e) (over l g o) }
     unfold cB;simp only[n];refine⟨e,_,rfl,j2,.inr ⟨j,cap,_,tid,G,R,hg,k3.same F,H,by rw[hlen];exact k4,k5,by rw[F];exact k6,?_⟩⟩;intro i x hx';have:=eR.over (l:=l) (cs:=cur.toList) k7 hE hn h0 E (by show _<=cur.size;rw[k6];exact gb _ k4) i x hx';simpa using bD.mono hx.I hx.cells this)
   simp only[cC,qI] at L;exact⟨_,L,h.go m2 m1,m2⟩
 .rename_i n;obtain⟨old,M,Y⟩:=bind_some t;split at Y
  case h_2=>cases Y
  rename_i k u l;obtain⟨hck,Z⟩:=ay Y;split at Z
  case h_2=>cases Z
  rename_i o U;obtain⟨c,hs,hr5⟩:=bind_some Z;obtain rfl:=aG hr5;obtain⟨hq,V⟩:=j9 U;subst hq;obtain rfl:o=m:=V;have E:=ahc bx k l hb z n M hck;unfold cB at D;rw[n] at D;obtain⟨j,cap,cur,tid,G,R,X,k3,H,k4⟩:=D;obtain⟨p1,p2⟩:=vl k4 M;have hvs:cV (.data (.arr k e) l)=k*e.size:=rfl;rw[hvs] at p1 p2;obtain⟨r1,r2,r3⟩:=p2;have hll:g+o.length<=(List.length (α:=e.den) l:Int):=by rw[r1];exact E
  have hlen:List.length (α:=e.den) (over (α:=e.den) l g o)=List.length (α:=e.den) l:=zz (l:=l) h0 hll;have ahe:(g.toNat+o.length)*e.size<=k*e.size:=gb _ (by omega);rw[gJ] at ahe;have s:cC q+g.toNat*e.size+f.length<=cur.size:=by have p1':cC q+k*e.size<=cur.size:=p1;omega
  have L:=A j cap cur tid G R X k3 s;have C:((cur.toList.drop<|cC q).take<|k*e.size).length=k*e.size:=r2;have K:g.toNat*e.size+f.length<=((cur.toList.drop<|cC q).take<|k*e.size).length:=by rw[C];omega
  have ahf:bD w γ.I (.arr k e) (over l g o) (aR ((cur.toList.drop<|cC q).take<|k*e.size) (g.toNat*e.size) f):=by
   refine⟨hlen.trans r1,by rw[bL K,C],?_⟩;exact eR.over (l:=l) r3 hE hn h0 hll (by rw[C];exact zh (by rw[r1]))
  have ahg:=rE cur.toList (cC q) (g.toNat*e.size) (k*e.size) f (by omega) p1;have W:({ bx with val:=c }:bB).row=bx.row:=F6 (bx:=bx) (p:=q) (v:=.data (.arr k e) (over l g o)) (by rw[n];exact hs) λhp _=>by
   subst hp;have y:bx.val=.data (.arr k e) l:=aG M;rw[bB.p6 n y];exact bB.p6 (bx:=⟨_,bx.tid,bx.buf,bx.ro,bx.lk,bx.aM⟩) n rfl
  have J:cC q+g.toNat*e.size+f.length<=cur.toList.length:=s;have F:(aR cur.toList (cC q+g.toNat*e.size) f).toArray.size=cur.size:=by have:=bL J;simpa using this
  obtain⟨m1,m2⟩:=h.ok.write hb hro R X (cur':=(aR cur.toList (cC q+g.toNat*e.size) f).toArray) (v:=c) F W
   (λw' dO hx hg=>by
    show cB γ dO w' b { bx with val:=c }
    unfold cB;simp only[n];refine⟨j,cap,_,tid,G,R,hg,k3.same F,H,?_⟩;have:=xN (k4.ext hx) M hs (show cf γ dO w' (.data (.arr k e)<|over l g o) .cells _ from bD.mono hx.I hx.cells ahf) (by rw[bL K,C];rfl);rw[ahg] at this;simpa using this)
  exact⟨_,L,h.go m2 m1,m2⟩
theorem Dh{e:Ty}{Q:Int->List e.den}{t:aL}{tv:Value}{r:Int×St}(h:cM B N γ σ a w)(hv:cf γ σ.mem w t .val [tv])(T:(EK e Q t σ).run=some r) :
  ∃base cap,tv=.slice base r.1.toNat cap/\0<=r.1/\∀g,eR w γ.I e (Q r.1) g->g.length=(Q r.1).length*e.size->(∀u∈g,u.oneCell'=true)->(Q r.1).length<=r.1.toNat ->
   ∃w',(match base with|some ad=>storeCells ad g|none=>pure ()).run P w=.ok () w'/\cM B N γ r.2 a w'/\Ext B γ σ.mem w γ r.2.mem w':=by
 unfold EK at T;split at T
 .rename_i b G lo n;obtain⟨bC,f,H⟩:=bind_some T;obtain rfl:=aG H;have o:∃p,σ.mem b=some p/\p.aM=G:=by
   unfold ke at f;split at f
   .rename_i p v;obtain⟨z,_⟩:=ay f;simp only[dv] at z;exact⟨p,v,eX z.1.1⟩
   .cases f
  obtain⟨p,v,x⟩:=o;obtain⟨e',k,J,R,S,g5,base,cap,g6,g7,g8,gF,K⟩:=bg v x hv.2;refine⟨base,cap,by simpa using g6,S,λg X Y A E=>?_⟩;dsimp only at X Y E;refine uz h f X Y A R (λL l y _ j m _=>?_) (λL k' l y _ j F _=>?_) ?_
  .obtain rfl:=aG (v.symm.trans y);rw[bB.dk j m] at J;obtain⟨_,rfl⟩:=bk (aG J);omega
  .obtain rfl:=aG (v.symm.trans y);have m:p.val=.data (.arr k' e) l:=aG F;rw[bB.p6 j m] at J;obtain⟨_,rfl⟩:=bk (aG J);omega
  .rcases K with K|⟨s,c,K,Z⟩
   .left;exact Qi (by rw[K,show(0:Int).toNat=0 from rfl] at E;rw[K];omega)
   .by_cases hm:Q n=[]
    .exact .inl hm
    .right;have he:e'=e:=by
      unfold ke at f;rw[v] at f;obtain⟨_,i⟩:=ay f;split at i
      .rename_i j;split at i
       case h_2=>cases i
       rename_i u l m;split at i
       case h_2=>cases i
       rename_i m' C;obtain⟨U,_⟩:=j9 C;rw[bB.dk j m] at J;obtain⟨rfl,_⟩:=bk (aG J);exact U.symm
      .rename_i j;obtain⟨old,F,D⟩:=bind_some i;split at D
       case h_2=>cases D
       rename_i k' u l;obtain⟨_,M⟩:=ay D;split at M
       case h_2=>cases M
       rename_i m' C;obtain⟨U,_⟩:=j9 C;have m:p.val=.data (.arr k' u) l:=aG F;rw[bB.p6 j m] at J;obtain⟨rfl,_⟩:=bk (aG J);exact U.symm
     subst he;exact⟨s,c,K,by rw[Z];simp[cC]⟩
 .rename_i b G;split at T
  case h_2=>cases T
  rename_i n V;obtain⟨bC,f,H⟩:=bind_some T;obtain rfl:=aG H;have o:∃p,σ.mem b=some p/\p.aM=G:=by
   unfold ke at f;split at f
   .rename_i p v;obtain⟨z,_⟩:=ay f;simp only[dv] at z;exact⟨p,v,eX z.1.1⟩
   .cases f
  obtain⟨p,v,x⟩:=o;obtain⟨e',k,g1,J,R⟩:=bg v x hv.2;have hbx:=h.ok.boxes b p v;have hl:∃l:List e.den,p.val=.data (.slice e) l/\n=l.length:=by
   unfold ke at f;rw[v] at f;obtain⟨_,i⟩:=ay f;split at i
   .split at i
    case h_2=>cases i
    rename_i u l hq0 m;split at i
    case h_2=>cases i
    rename_i m' C;obtain⟨U,_⟩:=j9 C;subst U;refine⟨l,m,?_⟩;simp only[lenOf,v,x,g1,CM,Bool.and_self,ev,m] at V;exact(aG V).symm
   .rename_i j;rw[g1] at j;cases j
  obtain⟨l,m,rfl⟩:=hl;rw[bB.dk g1 m] at J;obtain⟨rfl,rfl⟩:=bk (aG J);have fin:∀{base:Option Addr} {cap:Nat},tv=.slice base l.length cap->(l.length=0\/∃s c,γ.loc b=some (s,c)/\base=some ⟨s,0,none⟩) ->
    ∃base cap,tv=.slice base (l.length:Int).toNat cap/\(0:Int)<=l.length/\∀g,eR w γ.I e (Q l.length) g->g.length=(Q l.length).length*e.size->(∀u∈g,u.oneCell'=true)->(Q l.length).length<=(l.length:Int).toNat ->
     ∃w',(match base with|some ad=>storeCells ad g|none=>pure ()).run P w=.ok () w'/\cM B N γ bC a w'/\Ext B γ σ.mem w γ bC.mem w':=by
   intro base cap htv hb0;refine⟨base,cap,by simpa using htv,by omega,λg X Y A E=>?_⟩;refine uz h f X Y A (by omega) (λL l' y _ j W _=>?_) (λL k' l' y _ j F _=>?_) ?_
   .obtain rfl:=aG (v.symm.trans y);rw[m] at W;cases W;omega
   .obtain rfl:=aG (v.symm.trans y);rw[g1] at j;cases j
   .rcases hb0 with hb0|⟨s,c,q1,q2⟩
    .left;exact Qi (by omega)
    .right;exact⟨s,c,q1,by rw[q2];simp[cC]⟩
  rcases R with ⟨R,S⟩|⟨s,cap,R,S⟩
  .obtain S:tv=_:=by simpa using S
   rw[cB,g1] at hbx;obtain⟨e2,l2,j1,j2,j3⟩:=hbx;rw[m] at j1;cases j1;rcases j3 with ⟨_,j4⟩|⟨_,_,_,_,_,j3,_⟩
   .exact fin (base:=none) (cap:=0) (by rw[S,j4];rfl) (.inl<|by rw[j4];rfl)
   .rw[R] at j3;cases j3
  .exact fin (ue S) (.inr ⟨s,cap,R,rfl⟩)
 .rename_i b G q u k lo n;obtain⟨bC,f,H⟩:=bind_some T;obtain rfl:=aG H;have o:∃p,σ.mem b=some p/\p.aM=G:=by
   unfold ke at f;split at f
   .rename_i p v;obtain⟨z,_⟩:=ay f;simp only[dv] at z;exact⟨p,v,eX z.1.1⟩
   .cases f
  obtain⟨p,v,x⟩:=o;obtain⟨U,s,c,g1,R,S,g5,base,cap,g6,g7,K⟩:=bg v x hv.2;refine⟨base,cap,by simpa using g6,S,λg X Y A E=>?_⟩;dsimp only at X Y E;refine uz h f X Y A R (λL l y _ j m hq0=>absurd hq0 U) (λL k' l y _ j F O=>?_) ?_
  .simp only[dv] at O;have:=eX O.1;omega
  .rcases K with K|Z
   .left;exact Qi (by rw[K,show(0:Int).toNat=0 from rfl] at E;rw[K];omega)
   .by_cases hm:Q n=[]
    .exact .inl hm
    .right;have he:u=e:=by
      unfold ke at f;rw[v] at f;obtain⟨_,i⟩:=ay f;split at i
      .split at i
       .exact absurd rfl U
       .cases i
      .obtain⟨old,F,D⟩:=bind_some i;split at D
       case h_2=>cases D
       obtain⟨O,M⟩:=ay D;split at M
       case h_2=>cases M
       rename_i m' C;obtain⟨hq',_⟩:=j9 C;simp only[dv] at O;exact(Ty.eq_of_beq O.2).trans hq'.symm
     subst he;exact⟨s,c,g1,Z⟩
 .cases T
theorem Jb{I:Nat->Nat->Prop}{e:Ty}{m:List e.den}{v:Value}(h:zr w I e m v)(n:Nat)(q:n<=m.length) :
  ∃b,(Builtin.firstCells e.size n v).run P w=.ok b.toArray w/\b.length=n*e.size/\(∀u∈b,u.oneCell'=true)/\eR w I e (m.take n) b/\(Builtin.lenOf v).run P w=.ok m.length w:=by
 rcases h with ⟨rfl,g,c,k,r,s⟩|⟨t,y,c,k,r,s,z⟩
 .obtain rfl:n=0:=by simpa using q
  subst k;refine⟨[],?_,by simp,λu A=>absurd A (by simp),λi x f=>absurd f (by simp),rfl⟩;cases g with
  | none=>rfl
  | some C=>exact run_firstCells_some w e.size 0 C 0 c [] (by simp) (λj v o=>by cases o)
 .obtain⟨b,p,D,E,F⟩:=B2 (w:=w) (l:=m.take n) λi x f=>by
   rw[fA] at f;split at f
   .exact z i x f
   .cases f
  rw[fT,pc q] at p;refine⟨b,?_,p,E,F,by rw[k];rfl⟩;rw[k];exact run_firstCells_some w e.size n _ m.length c b p (λj u o=>by rw[addr_add];exact D j u o)
theorem Jc{I:Nat->Nat->Prop}{s:ao}(n:Nat)(h:n<=s.length) :
  ∃e,(Builtin.firstCells 1 n<|.string ⟨s.toArray⟩).run P w=.ok e.toArray w/\e.length=n/\(∀u∈e,u.oneCell'=true)/\eR w I (.int .u8) ((av s).take n:List Int) e/\(Builtin.lenOf<|.string ⟨s.toArray⟩).run P w=.ok (av s).length w:=by
 refine⟨(s.take n).map λb=>Value.int .u8 b.toNat,?_,by simp[h],λu l=>?_,λi x m=>?_,?_⟩
 .simp only[Builtin.firstCells,Sem.run_pure]
  congr 1
  apply Qz;have o:(⟨s.toArray⟩:ByteArray).extract 0 n=⟨(s.take n).toArray⟩:=by
   have:=QP s (i:=0) (j:=n) (by omega) (by omega);simpa [sub,minus] using this
  rw[o];simp
 .obtain⟨_,_,rfl⟩:=se.1 l;rfl
 .have c:((av s).take n)[i]?=some x:=m;rw[fA] at c;split at c
  .rename_i p;simp only[av,wH] at c;cases g:s[i]? with
   | none=>rw[g] at c;cases c
   | some b =>
     rw[g] at c;obtain rfl:(b.toNat:Int)=x:=aG c;refine⟨?_,OG b⟩;apply Lj;intro j;rw[fA];split
     .rename_i f;obtain rfl:j=0:=by simp[Ty.size] at f;exact f
      rw[mF];simp[Ty.size,g,p]
     .rename_i f;obtain⟨k,rfl⟩:∃k,j=k+1:=⟨j-1,by simp[Ty.size] at f;omega⟩;simp
  .cases c
 .simp[Builtin.lenOf,av,ByteArray.size]
theorem w9(s:ao):(av s).length=s.length:=sR ..
theorem ZO{s:ao}{n:Nat}(h:n<=(av s).length):n<=s.length:=by rw[w9] at h;exact h
theorem TG(i:bu B γ σ.mem w){e:Ty}{m:List e.den}{x:aL}{v:Value}(f:cf γ σ.mem w x .val [v])(h:uh e σ x=some m)(n:Nat)(g:n<=m.length) :
  ∃b,(Builtin.firstCells e.size n v).run P w=.ok b.toArray w/\b.length=n*e.size/\(∀u∈b,u.oneCell'=true)/\eR w γ.I e (m.take n) b/\(Builtin.lenOf v).run P w=.ok m.length w:=by
 unfold uh at h;split at h
 .rename_i t;obtain⟨q,j⟩:=j9 h;subst q;subst j;obtain⟨k,_⟩:=v8 f;rw[k];have c:n<=List.length (α:=UInt8) t:=ZO g;obtain⟨b,l,o,p,r,y⟩:=Jc (P:=P) (w:=w) (I:=γ.I) (s:=t) n c;exact⟨b,l,by rw[o];simp[Ty.size],p,r,y⟩
 .exact Jb (ri i f h) n g
theorem Jd(D:fv P cx){z E F:TypeId}{t x:Operand}(h:cM B N γ σ a w)(G:∀k,d=some k->k<N)(f:(wR cx d z (cu σ t) (cu σ x) σ).run=some bb) :
  mP P B N γ σ a w d (Builtin.copy_ #[z,E] F #[a.eval t,a.eval x]) bb:=by
 unfold wR at f;split at f
 case h_2=>cases f
 rename_i e H;split at f
 case h_1=>cases f
 rename_i m i;obtain⟨r,n,o⟩:=bind_some f;obtain rfl:=aG o;obtain⟨I,J,K,k3,k4⟩:=(D.T _ _ H).slice;obtain⟨j,p,L,c2,M⟩:=Dh (P:=P) h (h.cu t) n;have hlen:(jj (α:=e.den) m r.1).length=Nat.min m.length r.1.toNat:=by
  simp only[jj,fT];exact Nat.min_comm _ _
 obtain⟨l,O,Q,R,A,S⟩:=TG (P:=P) h.ok (h.cu x) i (Nat.min m.length r.1.toNat) (Nat.min_le_left _ _);have c:(m.take<|Nat.min m.length r.1.toNat)=jj (α:=e.den) m r.1:=by
  simp only[jj];rcases Nat.le_total m.length r.1.toNat with b|b
  .rw[show Nat.min m.length r.1.toNat=m.length from pc b,A8 (bZ _),A8 b]
  .rw[show Nat.min m.length r.1.toNat=r.1.toNat from Y9 b]
 rw[c] at A;obtain⟨w',g,U,V⟩:=M l A (by rw[Q,hlen]) R (by rw[hlen];exact Nat.min_le_right _ _);have C:(jj (α:=e.den) m r.1).length<=maxLen:=by
  rcases Qp (jj (α:=e.den) m r.1).length with W|W
  .omega
  .rw[hlen];refine fM (Nat.min_le_left _ _) ?_;have hv:=h.cu x;unfold uh at i;split at i
   .rename_i s X;obtain⟨q,Y⟩:=j9 i;subst q;subst Y;rw[X] at hv;obtain⟨_,u⟩:=v8 hv;exact fM (zh<|w9 s) u
   .rcases ri h.ok hv i with ⟨rfl,_⟩|⟨_,_,p,_,u,Z,_⟩
    .exact mK _
    .exact fM u Z
 refine⟨goInt (jj (α:=e.den) m r.1).length,w',γ,?_,?_,?_⟩
 .have y:=K.sizeOf w;simp only[Builtin.copy_,L];simp only[adg,YQ,Qj,Sem.run_bind,run_underlying J,Result.andThen_ok,S,y,O,hlen];cases j with
  | none=>simp only[Sem.run_pure,Result.andThen_ok] at g⊢;injection g with _ g;subst g;rfl
  | some ad=>simp only at g⊢;simp only[Sem.run_bind,g,Result.andThen_ok,Sem.run_pure]
 .have h9:(maxLen:Int)<=IntKind.i64.max:=by decide
  have h8:IntKind.i64.min<=0:=by decide
  have:=U.ur G (v:=.data (.int .i64) (len<|jj (α:=e.den) m r.1)) (val:=goInt (jj (α:=e.den) m r.1).length) (mkInt ⟨by simp only[len];omega,by simp only[len];omega⟩);exact this
 .cases d<;>exact V
theorem G4(s:fv P cx){o v:TypeId}{t:Operand}(h:cM B N γ σ a w)(j:(wS cx o (cu σ t) σ).run=some bb) :
  mP P B N γ σ a w none (Builtin.clear_ #[o] v #[a.eval t]) bb:=by
 unfold wS at j;split at j
 case h_2=>cases j
 rename_i e y;obtain⟨r,l,m⟩:=bind_some j;obtain rfl:=aG m;obtain⟨A,C,D,S,E⟩:=(s.T _ _ y).slice;obtain⟨f,F,G,U,H⟩:=Dh (P:=P) h (h.cu t) l;have hlen:(gK r.1 e.zero).length=r.1.toNat:=by simp[gK]
 obtain⟨z,J,p⟩:=D.zero w;have K:=uw p E r.1.toNat;have g:=nJ w γ.I (.arr r.1.toNat e);have b:(Builtin.zeroCells z.cells r.1.toNat).toList=eP (.arr r.1.toNat e):=by
  have n:z.cells.size=e.size:=by rw[<-dQ e,<-p];simp
  rw[<-K];simp only[Builtin.zeroCells,madeCells,n]
 obtain⟨w',c,L,M⟩:=H (eP<|.arr r.1.toNat e) (λi x O=>g.2.2 i x O) (by rw[dQ,hlen];rfl) (λu Q=>g.one u Q) (zh hlen);refine⟨.tuple #[],w',γ,?_,L,M⟩;simp only[Builtin.clear_,G];simp only[adg,YQ,Sem.run_bind,run_underlying C,Result.andThen_ok];cases f with
 | none=>simp only[Sem.run_pure,Result.andThen_ok] at c⊢;injection c with _ c;subst c;rfl
 | some V =>
   simp only at c;by_cases q:r.1.toNat=0
   .have:eP (.arr r.1.toNat e)=[]:=Qi (by rw[dQ];simp[Ty.size,q]);rw[this] at c;injection c with _ c
    subst c;rw[q];simp only[Sem.run_pure,Result.andThen_ok]
   .obtain⟨k,R⟩:∃k,r.1.toNat=k+1:=⟨r.1.toNat-1,by omega⟩;rw[R] at c b⊢;simp only[Sem.run_bind,J,Result.andThen_ok,b,c,Sem.run_pure]
theorem Di{b:Bool}{p q r:aL}{u v:Value}(i:cf γ σ.mem w p .val [u])(j:cf γ σ.mem w q .val [v])(g:(On b p q).run=some r) :
  ∃z,((if b then Builtin.min2 u v else Builtin.max2 u v)).run P w=.ok z w/\cf γ σ.mem w r .val [z]:=by
 unfold On at g;split at g
 .rename_i k n o m;obtain⟨l,h⟩:=ay g;obtain rfl:=wN l;obtain rfl:=aG h;obtain⟨rfl,e⟩:=sT i;obtain⟨rfl,f⟩:=sT j;have cmp:∀n m:Int,k.min<=n/\n<=k.max->k.min<=m/\m<=k.max->cf γ σ.mem w (.data (.int k)<|adB n m) .val [.int k<|if m<n then m else n]/\cf γ σ.mem w (.data (.int k)<|imax n m) .val [.int k<|if m > n then m else n]:=by
   intro n m e f;constructor
   .unfold adB;by_cases c:m<n
    .simp only[c,CN,ev,kQ];exact mkInt f
    .simp only[c,VA,iU,pV];exact mkInt e
   .unfold imax;by_cases c:n<m
    .simp only[c,CN,ev,gt_iff_lt,kQ];exact mkInt f
    .simp only[c,VA,iU,gt_iff_lt,pV];exact mkInt e
  cases b with
  | true=>exact⟨_,rfl,(cmp n m e f).1⟩
  | false=>exact⟨_,rfl,(cmp n m e f).2⟩
 .cases g
end
end Go.Ge
namespace Go.Ge
open RowKit
section
variable {P:Program} {B:qM} {N:Nat} {γ:Gh} {σ bb:St} {a:Act} {w w':World} {d:Option Nat} {cx:Ctx} {nb:Nat} {bf:List Nat} {inl:Nat->List aL->St->Tree (aL×St)}
theorem ON{f:Operand->aL}{l:List Operand}{x:aL}(h:l.map f=[x]):∃o,l=[o]/\f o=x:=by
 cases l with
 | nil=>cases h
 | cons o r=>cases r with
   | nil=>exact⟨o,rfl,by simpa using h⟩
   | cons p r=>simp at h
theorem H4{f:Operand->aL}{l:List Operand}{x y:aL}(h:l.map f=[x,y]):∃o p,l=[o,p]/\f o=x/\f p=y:=by
 cases l with
 | nil=>cases h
 | cons o r =>
   obtain⟨p,b,c⟩:=ON (l:=r) (f:=f) (x:=y) (by simp at h⊢;exact h.2);subst b;exact⟨o,p,rfl,by simp at h;exact h.1,c⟩
theorem eH{b:Type}{a:Array b}{l:List b}(h:a.toList=l):a=l.toArray:=by rw[<-h]
theorem WZ{c:Type}(k:Value->Array Value->Sem c)(x:Value)(b:Array Value):(match(#[x]++b)[0]? with|some recv=>k recv ((#[x]++b).extract 1 (#[x]++b).size)|x=>stuck "call: a method without a receiver")=k x b.toList.toArray:=by
 have e:(#[x]++b)[0]?=some x:=by rw[<-YT,MP];rfl
 have f:(#[x]++b).extract 1 (#[x]++b).size=b.toList.toArray:=by
  apply Qz;rw[Array.toList_extract,MP,Y5];simp[List.extract];rw[<-Ip,wI]
 rw[e,f]
theorem TH(V:fv P cx)(H:pC P B.G cx)(R:vn P B.G inl){o:Oper}{c:Call}(L:o.op=.call c)(h:cM B N γ σ a w)(O:∀k,o.dst=some k->k<N)
  (l:(uj cx nb bf inl o.dst o.type c σ).run=some bb) {K:Act->World->Prop} {Q:Exit->Act->World->Prop} (M:Bp B N γ σ a w o.dst bb K):o.wp P a w K Q:=by
 unfold uj at l;split at l
 .rename_i b j;split at l
  ·
   rename_i x t A S;obtain⟨m,p,rfl⟩:=ON A;cases W:VD (find cx.T t) (cu σ m) with
   | false =>
     rw[W] at l;simp only[iU] at l;split at l
     .rename_i e b aM q u k lo n he A;obtain⟨hl,g⟩:=ay l;simp only[dv,nE] at hl;obtain rfl:=aG g;obtain⟨bx,hbx,D⟩:=kf hl.1;have hv:=h.cu m;rw[A] at hv;obtain⟨_,X,c',g1,g2,g3,g4,base,cap,g5,g6,g7⟩:=bg hbx D hv.2;obtain g5:a.eval m=_:=by simpa using g5
      refine bQ (s:=Builtin.len_ c.argTypes o.type (c.args.map a.eval)) ?_ (bG h O (x:=.int .i64 n) ?_<|mkInt ?_) M
      .unfold execOp;simp only[L,resolve,j,invoke,builtin];rfl
      .rw[eH p,eH S,show Array.map a.eval [m].toArray=#[a.eval m] from by simp,g5];simp[Builtin.len_,run_underlying (xP V he).1,YZ g3];rfl
      .exact⟨Int.le_trans (by decide) g3,Int.le_trans hl.2 (by decide)⟩
     .exact absurd l (by intro k;cases k)
   | true =>
   have g:(match lenOf σ (cu σ m) with|some n=>Tree.ret (σ.aW o.dst<|.data (.int .i64) n)|none=>.fail).run=some bb:=by rw[W] at l;exact l
   split at g
   .rename_i n hn;obtain rfl:=aG g;obtain⟨l1,l2⟩:=QX (ty:=o.type) V h.ok (h.cu m) W hn;refine bQ (s:=Builtin.len_ c.argTypes o.type (c.args.map a.eval)) ?_ (bG h O (x:=.int .i64 n) ?_<|mkInt l2) M
    .unfold execOp;simp only[L,resolve,j,invoke,builtin];rfl
    .rw[eH p,eH S,show Array.map a.eval [m].toArray=#[a.eval m] from by simp];exact l1
   .exact absurd g (by intro k;cases k)
  .rename_i s x t u A S;obtain⟨os,m,p,rfl,rfl⟩:=H4 A;have key:(∃e,P.underlying u=some (.slice e))\/P.underlying u=some .string->(iq cx nb o.dst t (cu σ os) (cu σ m) σ).run=some bb->o.wp P a w K Q:=by
    intro hk g;refine bQ (s:=Builtin.append_ c.argTypes o.type (c.args.map a.eval)) ?_ ?_ M
    .unfold execOp;simp only[L,resolve,j,invoke,builtin];rfl
    .rw[eH p,eH S,show Array.map a.eval [os,m].toArray=#[a.eval os,a.eval m] from by simp];exact EZ V h O hk g
   split at l
   .rename_i hu;exact key (.inr (V.T _ _ hu).str) l
   .rename_i e hu;obtain⟨WE,f1,_⟩:=(V.T _ _ hu).slice;exact key (.inl ⟨WE,f1⟩) l
   .exact absurd l (by intro k;cases k)
  .rename_i t x tt tx A S;obtain⟨ot,m,p,rfl,rfl⟩:=H4 A;have key:(wR cx o.dst tt (cu σ ot) (cu σ m) σ).run=some bb->o.wp P a w K Q:=by
    intro g;refine bQ (s:=Builtin.copy_ c.argTypes o.type (c.args.map a.eval)) ?_ ?_ M
    .unfold execOp;simp only[L,resolve,j,invoke,builtin];rfl
    .rw[eH p,eH S,show Array.map a.eval [ot,m].toArray=#[a.eval ot,a.eval m] from by simp];exact Jd V h O g
   split at l
   .exact key l
   .exact key l
   .exact absurd l (by intro k;cases k)
  .rename_i t tt A S;obtain⟨ot,p,rfl⟩:=ON A;split at l
   .rename_i ahh;refine bQ (s:=Builtin.clear_ c.argTypes o.type (c.args.map a.eval)) ?_ ?_ M
    .unfold execOp;simp only[L,resolve,j,invoke,builtin];rfl
    .rw[eH p,eH S,show Array.map a.eval [ot].toArray=#[a.eval ot] from by simp,ahh];exact G4 V h l
   .exact absurd l (by intro k;cases k)
  .rename_i x y A;obtain⟨m,Y,p,rfl,rfl⟩:=H4 A;obtain⟨v,hb,g⟩:=bind_some l;obtain rfl:=aG g;obtain⟨z,z1,z2⟩:=Di (P:=P) (h.cu m) (h.cu Y) hb;refine bQ (s:=Builtin.min_ c.argTypes o.type (c.args.map a.eval)) ?_ (bG h O (x:=z) ?_ z2) M
   .unfold execOp;simp only[L,resolve,j,invoke,builtin];rfl
   .rw[eH p,show Array.map a.eval [m,Y].toArray=#[a.eval m,a.eval Y] from by simp];simp only[kQ] at z1;simp[Builtin.min_,z1]
  .rename_i x y A;obtain⟨m,Y,p,rfl,rfl⟩:=H4 A;obtain⟨v,hb,g⟩:=bind_some l;obtain rfl:=aG g;obtain⟨z,z1,z2⟩:=Di (P:=P) (h.cu m) (h.cu Y) hb;refine bQ (s:=Builtin.max_ c.argTypes o.type (c.args.map a.eval)) ?_ (bG h O (x:=z) ?_ z2) M
   .unfold execOp;simp only[L,resolve,j,invoke,builtin];rfl
   .rw[eH p,show Array.map a.eval [m,Y].toArray=#[a.eval m,a.eval Y] from by simp];simp only[Is,pV] at z1;simp[Builtin.max_,z1]
  .exact absurd l (by intro k;cases k)
 .rename_i f j;split at l
  .rename_i Z E hf;obtain⟨afe,g⟩:=ay l;have hv:=h.cu f;rw[hf] at hv;obtain⟨F,v1,v2,v3⟩:=hv;obtain v1:=ue v1;have J:lz γ σ.mem w (E.map λb=>.ptr b.1 b.2 []) F.toList:=by
    refine⟨by simpa using v2,λi v x h1 h2=>?_⟩;rw[wH] at h1;cases hi:E[i]? with
    | none=>rw[hi] at h1;cases h1
    | some bv =>
      rw[hi] at h1;obtain rfl:=aG h1;have hl:=sb.1 afe bv (eF hi);obtain⟨bx,hb,D⟩:=kf hl;have hof:=v3 i bv.1 bv.2 (by rw[hi]);obtain⟨X,cap,g1,g2⟩:=bg hb D hof;have A:x=.pointer (some ⟨X,0,none⟩):=by
       have:F[i]?=some x:=by simpa using h2
       rw[g2] at this;exact(aG this).symm
      subst A;exact⟨⟨_,rfl,rfl⟩,bx,hb,zh D.symm,λ_=>⟨X,cap,g1,rfl⟩⟩
   unfold QC Zn at g;unfold wP at v1;cases hq:Nat.blt Z 10000000 with
   | true =>
     rw[hq] at g v1;have C:lz γ σ.mem w (c.args.toList.map (cu σ)++E.map λb=>.ptr b.1 b.2 []) (c.args.map a.eval++F).toList:=by
      rw[MP,MU];exact(E4 h).append J
     refine B8 (f:=Z) (xs:=c.args.map a.eval++F) ?_ (Br H R h O C g M);unfold execOp;simp only[L,resolve,j,Deferred.ofValue,v1,ev,Sem.run_bind,Sem.run_pure,Result.andThen_ok,invoke];simp
   | false =>
     rw[hq] at g v1;have C:lz γ σ.mem w ((E.map λb=>.ptr b.1 b.2 [])++c.args.toList.map (cu σ)) (F++c.args.map a.eval).toList:=by
      rw[MP,MU];exact J.append (E4 h)
     refine B8 (f:=Z % 10000000) (xs:=F++c.args.map a.eval) ?_ (Br H R h O C g M);unfold execOp;simp only[L,resolve,j,Deferred.ofValue,v1,iU,Sem.run_bind,Sem.run_pure,Result.andThen_ok,invoke];simp
  .exact absurd l (by intro k;cases k)
 ·
  rename_i r U j;unfold rf at l;split at l
  .rename_i cn hcn;split at l
   .rename_i x bC A;obtain⟨y,hy,g⟩:=bY l;obtain rfl:=aG g;have C:lz γ σ.mem w (cu σ r::c.args.toList.map (cu σ)) (a.eval r::(c.args.map a.eval).toList):=by
     rw[MU];exact E4 (ops:=r::c.args.toList) h
    obtain⟨γ1,s1,s2,s3⟩:=rF h C A;obtain⟨f,u,e1,e2,e3⟩:=H.inv U cn hcn γ1.I w (a.eval r) _ x y (λb o hi=>s1.ok.sg b o hi) s1.ok.Ow s3 hy;refine B8 (f:=f) (xs:=(u::(c.args.map a.eval).toList).toArray) ?_ ⟨e2,e3.mono λe w' hw=>?_⟩
    .rw[<-e1];unfold execOp;simp only[L,resolve,j,Sem.run_bind,Sem.run_pure,Result.andThen_ok,invoke];exact congrArg (λz:Sem Next=>z.run P w) (WZ (λv=>callMethod v U) (a.eval r)<|Array.map a.eval c.args)
    .obtain⟨v,I',h1,h2,h3,h4,h5,h6⟩:=hw;refine⟨v,h1,?_⟩;obtain⟨m1,m2⟩:=s1.ok.far (I':=I') h2 h3 h4 h5;refine M ⟨I',γ1.loc⟩ _ w' (s1.aW m2 m1 O<|h6.rep λ_ _ hi=>hi) ?_;cases o.dst<;>exact s2.trans m2
   .exact absurd l (by intro k;cases k)
  .exact absurd l (by intro k;cases k)
theorem QY{I:Nat->Nat->Prop}{c:TypeId}{u:Nat}:∀{t:Ty} {a:Ty} {f:a.den->t.den},Den P t c->QF t u=some ⟨a,f⟩ ->
  P.concrete u=true/\∀(y:a.den) (cs:List Value),bD w I a y cs->bD w I t (f y) [.iface u<|bW a cs]:=by
 intro t;induction t with
 | alt n a r m e =>
   intro b f i h;unfold QF at h;obtain⟨l,o⟩:=i.rest;cases j:Nat.beq n u with
   | true =>
     rw[j] at h;obtain rfl:=eX j;cases h;exact⟨o,λy cs k=>⟨l.Zz i,cs,rfl,k⟩⟩
   | false =>
     rw[j] at h;simp only[iU] at h;split at h
     .rename_i v g p;cases h;obtain⟨q,s⟩:=e l p;exact⟨q,λy cs k=>s y cs k⟩
     .cases h
 | _=>intro b f i h;cases h
theorem abQ{c:TypeId}{u:Nat}{t:Ty}{a:Ty}{f:a.den->t.den}(e:Den P t c)(h:QF t u=some ⟨a,f⟩):t.isAgg=false:=by
 cases t with
 | alt n b r=>simp only[Den,eZ,dv] at e;exact(Ty.IK e.2).2
 | _=>cases h
theorem G5(n:fv P cx){o u:TypeId}{x:Operand}(h:cM B N γ σ a w)(p:∀k,d=some k->k<N)(c:(re cx d o u (cu σ x) σ).run=some bb) :
  mP P B N γ σ a w d (Instr.makeInterface u<|a.eval x) bb:=by
 unfold re at c;split at c
 .rename_i t q;have e:=n.T _ _ q;split at c
  .rename_i b f l;split at c
   .rename_i y bC r;obtain rfl:=aG c;obtain⟨g,s,v,m,z,A⟩:=mS h (h.cu x) r;obtain⟨C,D⟩:=QY (w:=w) (I:=g.I) e l;have i:a.eval x=bW b m:=by simpa using A
    have j:=abQ e l;refine⟨.iface u<|a.eval x,w,g,run_makeInterface w u _ C,s.ur p ⟨_,D y m z,?_⟩,?_⟩
    .rw[i];unfold bW;rw[j];rfl
    .cases d<;>exact v
   .exact absurd c (by intro k;cases k)
  .exact absurd c (by intro k;cases k)
 .exact absurd c (by intro k;cases k)
theorem QZ{o:Oper}{s:Sem ah}{K:Act->World->Prop}{Q:Exit->Act->World->Prop}(c:execOp a.eval o=(do s;pure .skip))(b:o.dst=none)
  (h:∃w' bM,s.run P w=.ok () w'/\cM B N bM bb a w'/\Ext B γ σ.mem w bM bb.mem w') (e:Bp B N γ σ a w o.dst bb K):o.wp P a w K Q:=by
 obtain⟨w',bM,f,g,i⟩:=h;unfold Oper.wp;rw[c];simp only[Sem.run_bind,f,Result.andThen_ok,Sem.run_pure,Oper.upon_skip];exact e bM _ w' (by rw[b];exact g) i
theorem vo{d:Option Nat}{k:Nat}(h:ownRow bf d=some k):d=some k:=by
 unfold ownRow at h;split at h
 .rename_i d;cases b:cI bf (9000000+d) with
  | false=>rw[b] at h;cases h
  | true=>rw[b] at h;obtain rfl:=aG h;rfl
 .cases h
theorem B9{d:Option Nat}{k:Nat}(h:QE bf d=some k):d=some k/\cI bf k=true:=by
 unfold QE at h;split at h
 .rename_i d;cases b:cI bf d with
  | false=>rw[b] at h;cases h
  | true=>rw[b] at h;obtain rfl:=aG h;exact⟨rfl,b⟩
 .cases h
theorem Je(A:fv P cx)(T:pC P B.G cx)(U:vn P B.G inl){o:Oper}(h:cM B N γ σ a w)(m:∀k,o.dst=some k->k<N)
  (g:(pW cx nb bf inl o σ).run=some bb) {K:Act->World->Prop} {Q:Exit->Act->World->Prop} (C:Bp B N γ σ a w o.dst bb K):o.wp P a w K Q:=by
 unfold pW at g;split at g
 case h_1 x j=>exact bQ (s:=pure (a.eval x)) (by simp only[execOp,j];rfl) (wX A h m g) C
 case h_2 x j=>exact bQ (s:=pure (a.eval x)) (by simp only[execOp,j];rfl) (wX A h m g) C
 case h_3 c x y j=>exact bQ (s:=do pure (if <-asBool (a.eval c) then a.eval x else a.eval y)) (by simp only[execOp,j];simp[bind_assoc]) (IX h m g) C
 case h_4 elem j =>
  split at g
  .rename_i k t E H;rw[E] at m;refine bQ (s:=Instr.alloc elem true (.tuple #[])) (by simp only[execOp,j]) ?_ C;rw[E];exact GX A h (m k rfl) H g
  .rename_i k E H;rw[E] at m;refine bQ (s:=Instr.alloc elem true (.tuple #[])) (by simp only[execOp,j]) ?_ C;rw[E];split at g
   .rename_i fs hO;exact GW A h (m k rfl) hO g
   .obtain⟨h1,r⟩:=ay g;exact GV A h (m k rfl) h1 r
  .exact absurd g (by intro k;cases k)
 case h_5 elem x j =>
  unfold CS at g;split at g
  .exact absurd g (by intro k;cases k)
  .exact absurd g (by intro k;cases k)
  .rename_i k E h1 h2;rw[E] at m;refine bQ (s:=Instr.box elem (a.eval x)) (by simp only[execOp,j]) ?_ C;rw[E];split at g
   .exact Lo h (m k rfl) h1 h2 g
   .exact WV h (m k rfl) h1 h2 g
  .exact absurd g (by intro k;cases k)
 case h_6 t parts j =>
  refine bQ (s:=Instr.build t (parts.map λ(i,x)=>(i,a.eval x))) (by simp only[execOp,j]) ?_ C;split at g
  .rename_i u v H;split at g
   .rename_i x bC F;obtain rfl:=aG g;exact B3 A h m H F
   .exact absurd g (by intro k;cases k)
  .rename_i n e H;split at g
   .rename_i l bC F;obtain rfl:=aG g;exact Dc A h m H F
   .exact absurd g (by intro k;cases k)
  .split at g
   .rename_i fs hO;split at g
    .rename_i z0 V;split at g
     .rename_i p q F;obtain rfl:=aG g;exact G0 A h m hO V F
     .rename_i u F;obtain rfl:=aG g;exact EV A h m hO V F
     .exact absurd g (by intro k;cases k)
    .exact absurd g (by intro k;cases k)
   .exact absurd g (by intro k;cases k)
  .exact absurd g (by intro k;cases k)
 case h_7 t n parts j =>
  refine bQ (s:=Instr.buildSlice t n (parts.map λ(i,x)=>(i,a.eval x))) (by simp only[execOp,j]) ?_ C;split at g
  .rename_i e H;split at g
   .rename_i k W L;obtain⟨E,_⟩:=B9 W;have hp:parts=#[]:=by simpa using L
    rw[E,hp];rw[E] at m;rw[Array.map_empty];exact EX A h (m k rfl) H g
   .obtain⟨hn,r⟩:=ay g;split at r
    .rename_i l bC F;split at r
     .rename_i k E;have hk':=vo E;rw[hk'] at m⊢;exact I6 A h (m k rfl) H hn F r
     .obtain rfl:=aG r;exact EW A h m H hn F
    .exact absurd r (by intro k;cases k)
  .exact Lr A h m g
  .exact absurd g (by intro k;cases k)
 case h_8 t x j=>exact bQ (s:=Instr.loadAt t (a.eval x)) (by simp only[execOp,j]) (I0 A h m g) C
 case h_9 t x y j =>
  split at g
  .rename_i E;exact QZ (s:=Instr.storeAt t (a.eval x) (a.eval y)) (by simp only[execOp,j]) E (GU A h g) C
  .exact absurd g (by intro k;cases k)
 case h_10 x j =>
  have hv:=h.cu x;have fin:∀{v:aL} {y:Value},a.eval x=y->execOp a.eval o=(do pure<|.value (<-(pure y:Sem Value)))->cf γ σ.mem w v .val [y]->bb=σ.aW o.dst v->o.wp P a w K Q:=by
   intro v y he hs hr0 hσ;subst hσ;exact bQ (s:=pure y) hs (bG h m rfl hr0) C
  split at g
  .rename_i b aM p J;rw[J] at hv;obtain⟨hl,r⟩:=ay g;obtain⟨bx,F,X⟩:=kf hl;obtain⟨blk,cap,I,O⟩:=bg F X hv.2;have O:=ue O;rw[O] at hv;exact fin O (by simp only[execOp,j,O];rfl) hv (aG r).symm
  .rename_i t y J;rw[J] at hv;obtain⟨blk,off,cs,I,O,g3⟩:=id hv;have I:=ue I;rw[I] at hv;exact fin I (by simp only[execOp,j,I];rfl) hv (aG g).symm
  .rename_i f c J;rw[J] at hv;obtain⟨arr,I,O,g3⟩:=id hv;have I:=ue I;rw[I] at hv;exact fin I (by simp only[execOp,j,I,wP];cases Nat.blt f 10000000<;>rfl) hv (aG g).symm
  .exact absurd g (by intro k;cases k)
 case h_11 op xt x y pos j =>
  obtain⟨v,F,r⟩:=bind_some g;obtain rfl:=aG r;obtain⟨z,Y,Z⟩:=Tt (P:=P) (x:=x) (y:=y) A (h.cu x) (h.cu y) F;refine bQ (s:=gN op xt x y (a.eval x) (a.eval y)) (by simp only[execOp,j,gN]) (bG h m Y Z) C
 case h_12 op ty x j =>
  obtain⟨v,F,r⟩:=bind_some g;obtain rfl:=aG r;obtain⟨z,Y,Z⟩:=ZD (P:=P) (h.cu x) F;exact bQ (s:=Op.unary op (a.eval x)) (by simp only[execOp,j]) (bG h m Y Z) C
 case h_13 src dst x j=>exact bQ (s:=convert src dst (a.eval x)) (by simp only[execOp,j]) (De A h m g) C
 case h_14 f first M j =>
  split at g
  .rename_i cs D R;obtain⟨S,g⟩:=ay g;obtain rfl:=aG g;refine bQ (s:=Instr.makeFunc (.func f) #[] (M.map a.eval)) ?_ (I4 h m R S) C;have:first=#[]:=by simpa using D
   simp only[execOp,j,this,show Array.map a.eval #[]=#[] from by simp]
  .rename_i x D R;have e1:first=#[x]:=eH D
   have e2:M=#[]:=by
    have:=(I3 h R).1;exact Array.eq_empty_of_size_eq_zero (by simpa using this.symm)
   split at g
   .rename_i cs J;obtain⟨S,g⟩:=ay g;obtain rfl:=aG g;refine bQ (s:=Instr.makeFunc (.func f) #[a.eval x] #[]) ?_ (GY h m J S) C;simp only[execOp,j,e1,e2,show Array.map a.eval #[]=#[] from by simp,show Array.map a.eval #[x]=#[a.eval x] from by simp]
   .exact absurd g (by intro k;cases k)
  .exact absurd g (by intro k;cases k)
 case h_15 t x lo hi j=>exact bQ (s:=Instr.sliceAt t (a.eval x) (lo.map a.eval) (hi.map a.eval) none) (by simp only[execOp,j];rfl) (GS A h m g) C
 case h_16 s x k j=>exact bQ (s:=Instr.fieldAt s (a.eval x) k) (by simp only[execOp,j]) (Bd A h m g) C
 case h_17 xt x k j =>
  have hv:=h.cu x;split at g
  .rename_i u y J;rw[J] at hv;obtain⟨H,r⟩:=ay g;split at r
   .rename_i off v hf;obtain rfl:=aG r;obtain⟨z,Y,Z⟩:=QO (P:=P) A (iY H) hv hf;exact bQ (s:=Instr.field xt (a.eval x) k) (by simp only[execOp,j]) (bG h m Y Z) C
   .exact absurd r (by intro k;cases k)
  .exact absurd g (by intro k;cases k)
 case h_18 t x i j =>
  split at g
  .rename_i ki n hi;have hv:=h.cu i;rw[hi] at hv;obtain⟨ei,_⟩:=sT hv;refine bQ (s:=Instr.indexAt t (a.eval x) (a.eval i)) (by simp only[execOp,j]) ?_ C;rw[ei];cases hm:cI bf 5000000 with
   | true=>rw[hm] at g;exact GQ A h m g
   | false=>rw[hm] at g;exact tf A h m g
  .exact absurd g (by intro k;cases k)
 case h_19 t x i j =>
  split at g
  .rename_i ki n hi;have hv:=h.cu i;rw[hi] at hv;obtain⟨ei,_⟩:=sT hv;refine bQ (s:=Instr.index t (a.eval x) (a.eval i)) (by simp only[execOp,j]) ?_ C;rw[ei];exact GR A h m g
  .exact absurd g (by intro k;cases k)
 case h_20 t l c j =>
  split at g
  .rename_i k e kl ln kc cn E H hl hcc;rw[E] at m;obtain⟨OK,r⟩:=cl g;obtain⟨hf,hr3⟩:=cl r;refine bQ (s:=Instr.makeSlice t (a.eval l) (a.eval c)) (by simp only[execOp,j]) ?_ C;rw[E];exact G1 A h (m k rfl) H hl hcc OK hf hr3
  .exact absurd g (by intro k;cases k)
 case h_21 t k j =>
  split at g
  .rename_i vs J;split at g
   .rename_i v hn;obtain rfl:=aG g;exact bQ (s:=Instr.extract (a.eval t) k) (by simp only[execOp,j]) (Lq h m J hn) C
   .exact absurd g (by intro k;cases k)
  .exact absurd g (by intro k;cases k)
 case h_22 c j=>exact TH A T U j h m g C
 case h_23 u x j=>exact bQ (s:=Instr.makeInterface u (a.eval x)) (by simp only[execOp,j]) (G5 A h m g) C
 case h_24=>exact absurd g (by intro k;cases k)
end
end Go.Ge
