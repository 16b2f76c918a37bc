import Derived.Test.YtcebnmppipejfaaGreatDoorGeE
import Derived.Laws.Build
set_option linter.unusedVariables false
set_option linter.unusedSimpArgs false
set_option linter.unusedSectionVars false
open Go.IntKind (i64)
namespace Go.Ge
open RowKit
def vq(P:Program)(G:fm)(inl:Nat->List aK->St->Tree (aK×St)):Prop :=
 ∀(B:qA) (γ:Gh) (σ aV:St) (w:World) (f:Nat) (b:List aK) (h:Array Value) (v:aK),B.G=G->bu B γ σ.mem w->kV γ σ.mem w b h.toList->(inl f b σ).run=some (v,aV) ->
  (∃fn c,P.funcs[f]?=some fn/\(fn.name == "runtime.NumGoroutine")=false/\fn.body=some c)/\aV.slots=σ.slots /\
  Calls P f h w λe w'=>∃g bG,e=.returned g/\bu B bG aV.mem w'/\Ext B γ σ.mem w bG aV.mem w'/\b5 bG aV.mem w' v .val [g]
section
variable {P:Program} {B:qA} {N:Nat} {γ:Gh} {σ aV:St} {a:Act} {w w':World} {d:Option Nat} {cx:Ctx} {nb:Nat} {bf:List Nat} {inl:Nat->List aK->St->Tree (aK×St)}
def Cd(B:qA)(N:Nat)(c:Gh)(e:St)(a:Act)(w:World)(d:Option Nat)(b:St)(K:Act->World->Prop):Prop :=
 ∀bG v w',cQ B N bG b (a.put d v) w'->Ext B c e.mem w bG b.mem w'->K (a.put d v) w'
theorem QG{f:Nat}{e:Func}{c:Code}(h:P.funcs[f]?=some e)(i:(e.name == "runtime.NumGoroutine")=false)(j:e.body=some c)(b:Array Value)(w:World) :
  (callFunc f b).run P w=.ok (.enter f b) w:=by
 have g:¬e.name = "runtime.NumGoroutine":=by simpa using i
 simp[callFunc,h,g,j]
theorem bO{o:Oper}{s:Sem Value}{K:Act->World->Prop}{Q:Exit->Act->World->Prop}(b:execOp a.eval o=(do pure<|.value (<-s)))(h:mb P B N γ σ a w o.dst s aV)(c:Cd B N γ σ a w o.dst aV K):o.wp P a w K Q:=by
 obtain⟨v,w',bG,e,f,g⟩:=h;unfold Oper.wp;rw[b];simp only[Sem.run_bind,e,Result.andThen_ok,Sem.run_pure];exact c bG _ w' f g
theorem Gj{ops:List Operand}(h:cQ B N γ σ a w):kV γ σ.mem w (ops.map<|cp σ) (ops.map a.eval):=by
 refine⟨by simp,λi v x b c=>?_⟩;rw[Kj] at b c;cases e:ops[i]? with
 | none=>rw[e] at b;cases b
 | some o =>
   rw[e] at b c;obtain rfl:=aE b;obtain rfl:=aE c;exact h.cp o
theorem kV.append{b:Nat->Option Box}{g j:List aK}{xs l:List Value}(h:kV γ b w g xs)(k:kV γ b w j l):kV γ b w (g++j) (xs++l):=by
 refine⟨by simp[h.1,k.1],λi v x e c=>?_⟩;rw[Sz] at e c;rw[h.1] at c;split at e
 .rename_i f;rw[bd f] at c;exact h.2 i v x e c
 .rename_i f;rw[bb f] at c;exact k.2 _ v x e c
theorem bu.drop{g:Nat->Option Box}{w':World}(h:bu B γ g w){b:Nat}{j bx:Box}(y:g b=some j)(m:j.aI<bx.aI)(p:tV B w w')
  (n:∀k,k<w.heap.size->(∀c,γ.loc b≠some (k,c))->w'.heap[k]?=w.heap[k]?) (l:∀k o,k<w.heap.size->w'.cell? ⟨k,o,none⟩=w.cell? ⟨k,o,none⟩)
  (r:cJ (bq γ b none) (cB g b bx) w' b bx):bu B (bq γ b none) (cB g b bx) w'/\Ext B γ g w (bq γ b none) (cB g b bx) w':=by
 have hx:Ext B γ g w (bq γ b none) (cB g b bx) w' :=
  { below:=p
    I:=λ_ _ x=>x
    pC:=λ_ _ x=>.inl x
    cells:=λblk o x=>l blk o (h.sV blk o x)
    boxes:=λc cx f=>by
     by_cases e:c=b
     .subst e;obtain rfl:j=cx:=aE (y.symm.trans f);exact⟨bx,bk _ _,SO m,λe=>absurd e (by omega)⟩
     .exact⟨cx,by rw[aN _ e];exact f,cD _,λ_=>⟨by simp[bq,e],rfl,rfl⟩⟩ }
 refine⟨?_,hx⟩;exact
  { cP:=h.Ei hx
    base:=iz h.base p.size
    boxes:=λc cx f=>by
     by_cases e:c=b
     .subst e;rw[bk] at f;obtain rfl:=aE f;exact r
     .rw[aN _ e] at f;refine(h.boxes c cx f).keep hx (by simp[bq,e]) λblk k z=>n blk (h.fresh c blk k (by rw[f];simp) z).2 λs t=>e ?_;exact h.inj c b blk k s (by rw[f];simp) (by rw[y];simp) z t
    inj:=λc d blk k s f A i q=>by
     by_cases e:c=b
     .simp only[bq,bd e] at i;cases i
     .by_cases u:d=b
      .simp only[bq,bd u] at q;cases q
      .simp only[bq,bb e] at i;simp only[bq,bb u] at q;rw[aN _ e] at f;rw[aN _ u] at A;exact h.inj c d blk k s f A i q
    fresh:=λc blk k f i=>by
     by_cases e:c=b
     .simp only[bq,bd e] at i;cases i
     .simp only[bq,bb e] at i;rw[aN _ e] at f;have:=h.fresh c blk k f i;exact⟨this.1,CP this.2 p.size⟩
    sV:=λblk off v=>CP (h.sV blk off v) p.size
    sep:=λc cx blk k off f i v=>by
     by_cases e:c=b
     .simp only[bq,bd e] at i;cases i
     .simp only[bq,bb e] at i;rw[aN _ e] at f;exact h.sep c cx blk k off f i v }
theorem Te{c:Nat->Option Box}{b:Nat}{f:Box}(h:c b=some f):cB c b f=c:=by
 funext i;by_cases e:i=b
 .subst e;rw[bk,h]
 .rw[aN _ e]
theorem Ny{f:Nat}{s:Y2}{Y:List aK}{xs:Array Value}(hs:eF P f s)(h:cQ B N γ σ a w)(hd:∀k,d=some k->k<N)(hv:kV γ σ.mem w Y xs.toList)
  (G:(Bh s d Y σ).run=some aV) {K:Act->World->Prop} (hK:Cd B N γ σ a w d aV K) :
  (∃fn code,P.funcs[f]?=some fn/\(fn.name == "runtime.NumGoroutine")=false/\fn.body=some code)/\Calls P f xs w λe w'=>∃v,e=.returned v/\K (a.put d v) w':=by
 unfold Bh at G;split at G
 .rename_i T b aI;split at G
  case h_2=>cases G
  rename_i bx Z;split at G
  case h_2=>cases G
  rename_i b' v' u un D;obtain⟨n,I⟩:=aw G;obtain rfl:=aE I;simp only[dF,kS] at n;obtain⟨⟨⟨⟨⟨⟨⟨⟨c1,c2⟩,c3⟩,c4⟩,U⟩,c6⟩,c7⟩,c8⟩,c9⟩:=n;have c1:=eT c1;have U:=eT U;have c7:=eT c7;have c8:=eT c8;have c6:0<T:=by simpa using c6
  subst c7;subst c8;obtain⟨val,J,hxs,g1,g2⟩:=hv.cons;have r:J=[]:=by have:=g2.1;simpa using this
  subst r;obtain⟨i,m,hl,V⟩:=ba Z c1 g1.2;have V:=ub V;simp only[cL] at V;obtain rfl:xs=#[.pointer<|some ⟨i,0,none⟩]:=by apply CQ.1;rw[hxs,V]
  have t:=h.ok.boxes b' bx Z;unfold cJ at t;rw[c2] at t;obtain⟨aea,aeb,z,tid,fr,a1,a2,a3,F,a5⟩:=t;rw[hl] at a1;obtain⟨rfl,rfl⟩:=dz (aE a1);have L:tid=T:=by
   rcases F with F|F
   .rw[U] at F;exact absurd F (abz c6)
   .rw[F,U]
  subst L;rw[D] at a5;obtain⟨cs1,cs2,e1,e2,e3⟩:=a5;obtain⟨cs3,cs4,e4,e5,e6⟩:=e3;obtain⟨⟨p,rfl,hp1⟩,hp2⟩:=e2;obtain⟨q,hq⟩:∃q,cs3=[q]:=by
   cases u<;>first|(cases c9;done)|skip
   obtain⟨⟨q,hq,_⟩,_⟩:=e5;exact⟨q,hq⟩
  subst hq;obtain rfl:cs4=[]:=e6;have M:z=#[p,q]:=by apply CQ.1;rw[e1,e4];rfl
  subst M;obtain⟨alJ,ai3,j1,j2⟩:=ba Z c1 hp2;rw[hl] at j1;obtain⟨rfl,rfl⟩:=dz (aE j1);have j2:p=.pointer none\/p=.pointer (some ⟨i,0,none⟩):=j2.imp ub ub;refine⟨hs.1,(hs.2 w i p q fr a2 (a3 0<|by simp) j2).mono λe w' H=>?_⟩;obtain⟨rfl,H⟩:=H;refine⟨_,rfl,?_⟩;have aej:∀{bG:Gh} {dP:Nat->Option Box} {w':World},b5 bG dP w' (.y7 .nl) .val [.tuple #[]]:=λ{_ _ _}=>⟨#[],rfl,rfl⟩;rcases H with rfl|rfl
  .refine hK γ _ _ (h.uo hd aej) ?_;cases d<;>exact Ext.refl _ _ _ _
  .have A:({ bx with val:=bx.val }:Box)=bx:=by cases bx;rfl
   obtain⟨m1,m2⟩:=h.ok.write Z c4 hl a2 (cur':=#[.pointer<|some ⟨i,0,none⟩,q]) (v:=bx.val) (by simp) (by rw[A])
    (λw' dP hx hg=>by
     rw[A];unfold cJ;rw[c2];refine⟨i,m,_,tid,fr,hl,hg,λo ho=>a3 o (by simpa using ho),F,?_⟩;rw[D];refine⟨[.pointer<|some ⟨i,0,none⟩],[q],rfl,?_,[q],[],rfl,e5.ext hx,rfl⟩;have hp3:mn dP b' v' λ_=>∃i m,γ.loc b'=some (i,m):=by
      obtain⟨bx0,k1,k2,k3⟩:=hp2;obtain⟨rN,q1,q2,C⟩:=hx.boxes b' bx0 k1;exact⟨rN,q1,iz k2 q2,λ_=>⟨i,m,hl⟩⟩
     obtain⟨rN,q1,q2,C⟩:=hp3;exact⟨⟨_,rfl,rfl⟩,rN,q1,q2,λ_=>⟨i,m,hl,.inr rfl⟩⟩)
   rw[A,Te Z] at m1 m2;refine hK γ _ _ (h.aS m2 m1 hd aej) ?_;cases d<;>exact m2
 .rename_i T E b aI;split at G
  case h_2=>cases G
  rename_i bx Z;split at G
  case h_2=>cases G
  rename_i b' v' hh hv' un D;obtain⟨n,I⟩:=aw G;simp only[dF,kS] at n;obtain⟨⟨⟨⟨c1,c2⟩,U⟩,c6⟩,c7⟩:=n;have c1:=eT c1;have U:=eT U;have c6:0<T:=by simpa using c6
  split at I
  case h_2=>cases I
  rename_i hx W;obtain⟨n,hr3⟩:=aw I;simp only[dF,kS] at n;obtain⟨⟨⟨⟨d1,d2⟩,d3⟩,d4⟩,d5⟩:=n;have d1:=eT d1;have d4:=eT d4;have d5:0<E:=by simpa using d5
  split at hr3
  case h_2=>cases hr3
  rename_i l hhv;change List Int at l;obtain rfl:=aE hr3;obtain⟨val,J,hxs,g1,g2⟩:=hv.cons;have r:J=[]:=by have:=g2.1;simpa using this
  subst r;obtain⟨i,m,hl,V⟩:=ba Z c1 g1.2;have V:=ub V;simp only[cL] at V;obtain rfl:xs=#[.pointer<|some ⟨i,0,none⟩]:=by apply CQ.1;rw[hxs,V]
  have t:=h.ok.boxes b bx Z;unfold cJ at t;rw[c2] at t;obtain⟨aea,aeb,z,tid,fr,a1,a2,a3,F,a5⟩:=t;rw[hl] at a1;obtain⟨rfl,rfl⟩:=dz (aE a1);have L:tid=T:=by
   rcases F with F|F
   .rw[U] at F;exact absurd F (abz c6)
   .rw[F,U]
  subst L;rw[D] at a5;obtain⟨cs1,cs2,e1,e2,e3⟩:=a5;obtain⟨cs3,cs4,e4,e5,e6⟩:=e3;obtain⟨⟨p,rfl,hp1⟩,hp2⟩:=e2;obtain⟨⟨q,rfl,hq1⟩,hq2⟩:=e5;obtain rfl:cs4=[]:=e6;have M:z=#[p,q]:=by apply CQ.1;rw[e1,e4];rfl
  subst M;obtain⟨e',n',k1,k2,k3⟩:=ba W d1 hq2;rw[Box.df d2 hhv] at k2;obtain⟨rfl,rfl⟩:=dz (aE k2);have O:=h.ok.boxes hh hx W;unfold cJ at O;rw[d2] at O;obtain⟨e3,l3,q1,q2,C⟩:=O;rw[hhv] at q1;cases q1;have hlen:(aX l).length=l.length:=by simp[aX]
  let X:Box:={ hx with val:=.data (.slice<|.int .u8) ([]:List Int),aI:=hx.aI+1 }
  have key:∃og:Option Nat,(∀k,og=some k->∃c,γ.loc hh=some (k,c))/\l.length<=maxLen /\
    ((og=none/\q=.slice none 0 0/\aX l=[])\/∃(g m:Nat) (z:Array Value) (fr':Nat×Nat),og=some g/\q=.slice (some ⟨g,0,none⟩) (aX l).length m/\w.heap[g]?=some (.cells z E fr')/\(aX l).length<=m/\m<=maxLen/\z.size=m/\∀(j:Nat) (x:UInt8),(aX l)[j]?=some x->z[j]?=some (Value.int .u8 x.toNat)):=by
   rcases k3 with ⟨k3,k4⟩|⟨g,Q,k3,k4⟩
   .rcases C with ⟨_,C⟩|⟨_,_,_,_,_,C,_⟩
    .subst C;exact⟨none,(λk S=>by cases S),pj _,.inl ⟨rfl,ub k4,rfl⟩⟩
    .rw[k3] at C;cases C
   .rcases C with ⟨C,_⟩|⟨g',akM,R,ai5,frg,C,q4,q5,q6,q7,q8,q9,q10⟩
    .rw[k3] at C;cases C
    .rw[k3] at C;obtain⟨rfl,rfl⟩:=dz (aE C);have htg:ai5=E:=by
      rcases q6 with q6|q6
      .rw[d4] at q6;exact absurd q6 (abz d5)
      .rw[q6,d4]
     subst htg;have ahs:(Ty.int IntKind.u8).size=1:=rfl;have q7':l.length<=Q:=q7;refine⟨some g,λk S=>⟨Q,by rw[k3,aE S]⟩,iz q7' q8,.inr ⟨g,Q,R,frg,rfl,?_,q4,by omega,q8,by rw[q9,ahs,B7],λj x hj=>?_⟩⟩
     .rw[hlen];exact ub k4
     .simp only[aX,Kj,uc] at hj;obtain⟨y,hy,rfl⟩:=hj;obtain⟨r1,r2,r3⟩:=q10 j y hy;rw[ahs,B7] at r1;have aht:(IntKind.u8).min=0:=by decide
      have abX:(IntKind.u8).max=255:=by decide
      have r2':0<=y:=by have:=r2;rw[aht] at this;exact this
      have r3':y<=255:=by have:=r3;rw[abX] at this;exact this
      have ahu:R.toList[j]?=some (.int .u8 y):=by
       have:((R.toList.drop j).take 1)[0]?=some (.int .u8 y):=by rw[r1];rfl
       simpa [gm,l9] using this
      have hy2:((UInt8.ofNat y.toNat).toNat:Int)=y:=by
       rw[UInt8.toNat_ofNat'];have:y.toNat<256:=by omega
       rw[Nat.mod_eq_of_lt<|by simpa using this];omega
      rw[hy2];simpa using ahu
  obtain⟨og,hog,hlm,S⟩:=key;refine⟨hs.1,(hs.2 w i p q fr (aX l) og a2 S).mono λe w' H=>?_⟩;obtain⟨rfl,H⟩:=H;refine⟨_,rfl,?_⟩;have ai6:tV B w w':=⟨H.os,H.tape,H.output,H.size,λk S=>by
   rcases ud k w.heap.size with hlt|hge
   .refine H.block k hlt λe=>S ?_;obtain⟨c,hc⟩:=hog k e;exact(h.ok.fresh hh k c (by rw[W];simp) hc).1
   .exact absurd (.inl<|iz h.ok.base hge) S⟩
  have ai7:cJ (bq γ hh none) (cB σ.mem hh X) w' hh X:=by
   unfold cJ;rw[show X.buf=true from d2];exact⟨.int .u8,[],rfl,q2,.inl ⟨by simp[bq],rfl⟩⟩
  obtain⟨m1,m2⟩:=h.ok.drop (bx:=X) W (SI _) ai6 (λk S hn=>H.block k S λe=>by obtain⟨c,hc⟩:=hog k e;exact hn c hc) H.cell ai7;refine hK (bq γ hh none) _ w' (h.aS m2 m1 hd (v:=.data .str (aX l)) (val:=.string ⟨(aX l).toArray⟩) ?_) ?_
  .exact⟨[.string ⟨(aX l).toArray⟩],⟨rfl,by rw[hlen];exact hlm⟩,rfl⟩
  .cases d<;>exact m2
 .cases G
theorem QH(z:oT P B.G cx)(Z:vq P B.G inl){f:Nat}{j:List aK}{H:Array Value}(h:cQ B N γ σ a w)(hd:∀k,d=some k->k<N)(hv:kV γ σ.mem w j H.toList)
  (i:(wc cx inl d f j σ).run=some aV) {K:Act->World->Prop} (X:Cd B N γ σ a w d aV K) :
  (∃J A,P.funcs[f]?=some J/\(J.name == "runtime.NumGoroutine")=false/\J.body=some A)/\Calls P f H w λe w'=>∃v,e=.returned v/\K (a.put d v) w':=by
 unfold wc at i;split at i
 .rename_i c hcf;have L:=z.con f c hcf;refine⟨L.body,?_⟩;split at i
  .rename_i O;split at i
   .rename_i x hx;obtain⟨y,hy,m⟩:=bX i;obtain rfl:=aE m;have R:=Nw (I':=λb o=>b<w.heap.size) h.ok (λb o q=>h.ok.sV b o q) (λb o _ C=>C) hv hx;refine(L.calls (λb o=>b<w.heap.size) w H x y (λb o C=>C) h.ok.Qs R hy).mono λe w' S=>?_;obtain⟨v,I',T,E,W,Y,h5,h6⟩:=S;refine⟨v,T,?_⟩;obtain⟨m1,F⟩:=h.ok.far (I':=γ.I) E (λ_ _ q=>q) (λb o q=>CP (h.ok.sV b o q) E.size) (λb o q hn=>absurd q hn);refine X γ _ w' (h.aS F m1 hd<|h6.flat O) ?_;cases d<;>exact F
   .exact absurd i (by intro k;cases k)
  .split at i
   .rename_i x bA hx;obtain⟨y,hy,m⟩:=bX i;obtain rfl:=aE m;obtain⟨γ1,s1,s2,s3⟩:=qY h hv hx;refine(L.calls γ1.I w H x y (λb o q=>s1.ok.sV b o q) s1.ok.Qs s3 hy).mono λe w' S=>?_;obtain⟨v,I',T,E,W,Y,h5,h6⟩:=S;refine⟨v,T,?_⟩;obtain⟨m1,F⟩:=s1.ok.far (I':=I') E W Y h5;refine X ⟨I',γ1.loc⟩ _ w' (s1.aS F m1 hd<|h6.rep λ_ _ q=>q) ?_;cases d<;>exact s2.trans F
   .exact absurd i (by intro k;cases k)
 .rename_i hcf;have l:((inl f j σ).bind λr=>.ret (r.2.aS d r.1):Tree St).run=some aV->(∃J A,P.funcs[f]?=some J/\(J.name == "runtime.NumGoroutine")=false/\J.body=some A)/\Calls P f H w λe w'=>∃v,e=.returned v/\K (a.put d v) w':=by
   intro i;obtain⟨r,hr1,m⟩:=bind_some i;obtain rfl:=aE m;obtain⟨v0,Ce⟩:=r;obtain⟨C,hsl,D⟩:=Z B γ σ Ce w f j H v0 rfl h.ok hv hr1;refine⟨C,D.mono λe w' S=>?_⟩;obtain⟨v,bG,T,E,W,Y⟩:=S;refine⟨v,T,?_⟩;have hs0:Ce={ slots:=σ.slots,mem:=Ce.mem }:=by cases Ce;simp only at hsl;subst hsl;rfl
   rw[hs0] at X;refine X bG _ w' (h.aS W E hd Y) ?_;cases d<;>exact W
  split at i
  .rename_i s hcs;exact Ny (z.Nn f s hcs) h hd hv i X
  split at i
  .rename_i c hcr;split at i
   .rename_i x u N M hx;obtain⟨t,i⟩:=aw i;have t:=Gd.1 t;obtain⟨y,hy,m⟩:=bX i;obtain rfl:=aE m;have L:=z.Ql _ c hcr;rw[show Y7 f j / 2=f by unfold Y7;split<;>omega] at L;obtain⟨V,kT,g1,g2,g3⟩:=Nx hv hx;obtain⟨bs,k1,k2,k3⟩:=Pj h.ok g2 g3;have hlen:=Gf g3;have hold:∀blk∈cW bs (M.map λp=>γ.loc p.1),∃b k,(∃bx,σ.mem b=some bx)/\γ.loc b=some (blk,k):=λblk C=>Pl k1 k3 C;refine⟨L.body,(L.calls γ.I w H kT bs _ x u y (λb o q=>h.ok.sV b o q) h.ok.Qs (λb Q g C=>by
     obtain⟨n,k,⟨bx,j1⟩,j2⟩:=hold b C;exact(h.ok.cP b Q g).1 (h.ok.fresh n b k (by rw[j1];simp) j2).1) g1 k2 (HR h.ok k1 k3 t) hy).mono λe w' S=>?_⟩
    obtain⟨v,I',ls',T,E,W,Y,h5,h6,h7,h8,h9⟩:=S;refine⟨v,T,?_⟩;obtain⟨m1,F⟩:=h.ok.refs g3 t k1 k3 E W Y h5 h7 h8 h9;have hs:kB c.U y.2 N M σ={ slots:=σ.slots,mem:=(kB c.U y.2 N M σ).mem }:=rfl;refine X ⟨I',gW M ls' γ.loc⟩ _ w' (by rw[hs];exact h.aS F m1 hd (h6.rep λ_ _ q=>q)) ?_;cases d<;>exact F
   .exact l i
  .exact l i
theorem bu.VO{l:Nat->Option Box}{M:World}(h:bu B γ l w){b:Nat}{rN:Box}{e:Ty}{l':List e.den}{L:Option (Nat×Nat)}{X:Nat->Prop}{W:Nat->Nat->Prop}{v:Value}
  (Y:∀k,X k->∃g c,l b=some g/\g.ro=false/\γ.loc b=some (k,c)) (t:kH w γ.I X M W) (G:vp M W e l' L v) (Q:∀f c,L=some (f,c)->X f\/w.heap.size<=f)
  (H:∀g,l b=some g->g.aI<rN.aI\/(g.aI=rN.aI/\L=γ.loc b/\rN.buf=g.buf/\rN.row=g.row)) (ab2:rN.val=.data (.slice e) l') (R:rN.buf=true) (S:rN.tid=0) (he:0<e.size) :
  let bG:Gh:=⟨W,λi=>if i=b then L else γ.loc i⟩
  bu B bG (cB l b rN) M/\Ext B γ l w bG (cB l b rN) M:=by
 intro bG;have p:∀k,k<w.heap.size->¬X k->M.heap[k]?=w.heap[k]?:=λk A T=>t.below.block k λq=>by
  rcases q with q|q
  .have:w.heap.size<=k:=q;omega
  .exact T q
 have O:∀k,X k->∀o,¬γ.I k o:=λk A o z=>by
  obtain⟨g,c,m,s,Z⟩:=Y k A;have:=(h.sep b g k c o m Z z).1;rw[s] at this;cases this
 have U:∀k,¬B.has k->k<w.heap.size:=λk A=>XJ λq=>A (.inl<|iz h.base q);have u:∀k,X k->B.has k/\k<w.heap.size:=λk A=>by
  obtain⟨g,c,m,s,Z⟩:=Y k A;exact h.fresh b k c (by rw[m];simp) Z
 have hx:Ext B γ l w bG (cB l b rN) M :=
  { below:=⟨t.below.os,t.below.tape,t.below.output,t.below.size,λk A=>p k (U k A) λT=>A (u k T).1⟩
    I:=t.held
    pC:=λb o x=>by
     by_cases z:γ.I b o
     .exact .inl z
     .exact .inr (.inl<|iz h.base<|t.pC b o x z)
    cells:=λb o z=>de (p b (h.sV b o z) λT=>O b T o z)
    boxes:=λc cx n=>by
     by_cases j:c=b
     .subst j;refine⟨rN,bk _ _,?_,λC=>?_⟩
      .rcases H cx n with q|q
       .exact SO q
       .exact zR q.1
      .rcases H cx n with q|q
       .omega
       .exact⟨by simp[bG,q.2.1],q.2.2⟩
     .exact⟨cx,by rw[aN _ j];exact n,cD _,λ_=>⟨by simp[bG,j],rfl,rfl⟩⟩ }
 have J:∀f c,L=some (f,c)->f<M.heap.size/\∀o,¬W f o:=λf c D=>by
  rcases G with ⟨q,_⟩|⟨K,cap,cur,tid,fr,q1,q2,q3,q4,q5,q6,q7,q8,q9⟩
  .rw[q] at D;cases D
  .rw[q1] at D;obtain⟨rfl,rfl⟩:=dz (aE D);exact⟨(u9.1 q3).1,q8⟩
 have y:∀{c d:Nat},c≠b->cB l b rN c≠none->l c≠none:=λn hm=>by rwa [aN _ n] at hm
 have r:∀{d f k c:Nat},d≠b->l d≠none->L=some (f,k)->γ.loc d=some (f,c)->False:=λ{d f k c} hd hm D s=>by
  rcases Q f k D with E|E
  .obtain⟨g,c0,j1,j2,j3⟩:=Y f E;exact hd (h.inj d b f c c0 hm (by rw[j1];simp) s j3)
  .have:=(h.fresh d f c hm s).2;omega
 refine⟨?_,hx⟩;exact
  { cP:=h.Ei hx
    base:=iz h.base t.below.size
    boxes:=λc cx n=>by
     by_cases j:c=b
     .subst j;rw[bk] at n;obtain rfl:=aE n;unfold cJ;rw[R];refine⟨e,l',ab2,he,?_⟩;rcases G with ⟨q1,q2,q3⟩|⟨K,cap,cur,tid,fr,q1,q2,q3,q4,q5,q6,q7,q8,q9⟩
      .exact .inl ⟨by simp[bG,q1],q2⟩
      .exact .inr ⟨K,cap,cur,tid,fr,by simp[bG,q1],q3,q4,.inl S,q5,q6,q7,q9⟩
     .rw[aN _ j] at n;refine(h.boxes c cx n).keep hx (by simp[bG,j]) λf k D=>p f (h.fresh c f k (by rw[n];simp) D).2 λE=>?_;obtain⟨g,c0,j1,j2,j3⟩:=Y f E;exact j (h.inj c b f k c0 (by rw[n];simp) (by rw[j1];simp) D j3)
    inj:=λc d f k k' n hd m s=>by
     by_cases j:c=b
     .by_cases C:d=b
      .rw[j,C]
      .exfalso;simp only[bG,bd j] at m;simp only[bG,bb C] at s;exact r C (y (d:=0) C hd) m s
     .by_cases C:d=b
      .exfalso;simp only[bG,bb j] at m;simp only[bG,bd C] at s;exact r j (y (d:=0) j n) s m
      .simp only[bG,bb j] at m;simp only[bG,bb C] at s;exact h.inj c d f k k' (y (d:=0) j n) (y (d:=0) C hd) m s
    fresh:=λc f k n m=>by
     by_cases j:c=b
     .simp only[bG,bd j] at m;refine⟨?_,(J f k m).1⟩;rcases Q f k m with q|q
      .exact(u f q).1
      .exact .inl (iz h.base q)
     .simp only[bG,bb j] at m;have:=h.fresh c f k (y (d:=0) j n) m;exact⟨this.1,CP this.2 t.below.size⟩
    sV:=t.sV
    sep:=λc cx f k F n m z=>by
     by_cases j:c=b
     .simp only[bG,bd j] at m;exact absurd z ((J f k m).2 F)
     .simp only[bG,bb j] at m;rw[aN _ j] at n;by_cases V:γ.I f F
      .exact h.sep c cx f k F n m V
      .have Z:=t.pC f F z V;have s:=(h.fresh c f k (by rw[n];simp) m).2;omega }
theorem vp.rep{I:Nat->Nat->Prop}{j:Nat->Option (Nat×Nat)}{k:Nat->Option Box}{w:World}{e:Ty}{l:List e.den}{L:Option (Nat×Nat)}{v:Value}{b m:Nat}{bx:Box}(h:vp w I e l L v)
  (f:j b=L) (s:k b=some bx) (g:bx.aI=m) (c:bx.buf=true) (i:bx.val=.data (.slice e) l):b5 ⟨I,j⟩ k w (.whole b m) .val [v]:=by
 rcases h with ⟨o,p,q⟩|⟨n,r,t,tid,u,o,p,q,x,y,z,A,C,D⟩
 .exact⟨⟨v,rfl,by rw[q];rfl⟩,dJ s g ⟨e,l.length,c,Box.df c i,.inl ⟨by rw[<-o];exact f,by rw[q]⟩⟩⟩
 .exact⟨⟨v,rfl,by rw[p];rfl⟩,dJ s g ⟨e,l.length,c,Box.df c i,.inr ⟨n,r,by rw[<-o];exact f,by rw[p]⟩⟩⟩
theorem ab3{j:Nat->Option Box}(h:bu B γ j w){b p:Nat}{k:Box}{e:Ty}{l:List e.den}{v:Value}(y:j b=some k)(q:k.aI=p)(f:k.buf=true)(z:k.ro=false)(g:k.val=.data (.slice e) l)
  (G:b5 γ j w (.whole b p) .val [v]):vp w γ.I e l (γ.loc b) v/\0<e.size:=by
 obtain⟨R,n,S,E,c⟩:=ba y q G.2;rw[Box.df f g] at E;obtain⟨rfl,rfl⟩:=dz (aE E);have m:=h.boxes b k y;unfold cJ at m;rw[f] at m;obtain⟨T,U,F,H,i⟩:=m;rw[g] at F;cases F;refine⟨?_,H⟩;rcases i with ⟨i,A⟩|⟨r,s,C,tid,J,i,A,K,V,L,M,O,D⟩
 .rcases c with ⟨c,t⟩|⟨u,x,c,t⟩
  .exact .inl ⟨c,A,ub t⟩
  .rw[i] at c;cases c
 .rcases c with ⟨c,t⟩|⟨u,x,c,t⟩
  .rw[i] at c;cases c
  .rw[i] at c;obtain⟨rfl,rfl⟩:=dz (aE c);refine .inr ⟨r,s,C,tid,J,i,ub t,A,K,L,M,O,λo Q=>?_,D⟩;have:=(h.sep b k r s o y i Q).1;rw[z] at this;cases this
theorem rR{e:Ty}{v:aK}{b j:Nat}{k:Box}{l:List e.den}(h:yd e σ v=some (b,j,k,l)):σ.mem b=some k/\k.aI=j/\k.buf=true/\k.lk=false/\k.ro=false/\k.tid=0 /\
  ∃m:List e.den,k.val=.data (.slice e) m/\((v=.whole b j/\l=m)\/∃n,v=.part b j 0 n/\l=sub m 0 n):=by
 unfold yd at h;split at h
 .rename_i s g;split at h
  .rename_i c o;cases f:(Nat.beq c.aI g&&c.buf&&!c.lk&&!c.ro&&Nat.beq c.tid 0) with
   | false=>rw[f] at h;cases h
   | true =>
     rw[f] at h;simp only[dF,kS] at f;simp only[eG] at h;split at h
     .rename_i u m i;split at h
      .rename_i t p;obtain⟨q,r⟩:=jP p;subst q;subst r;cases h;exact⟨o,eT f.1.1.1.1,f.1.1.1.2,f.1.1.2,f.1.2,eT f.2,_,i,.inl ⟨rfl,rfl⟩⟩
      .cases h
     .cases h
  .cases h
 .rename_i s g x n;split at h
  .rename_i c o;cases f:(Nat.beq c.aI g&&c.buf&&!c.lk&&!c.ro&&Nat.beq c.tid 0&&decide (x=0)) with
   | false=>rw[f] at h;cases h
   | true =>
     rw[f] at h;simp only[dF,kS,nI] at f;simp only[eG] at h;split at h
     .rename_i u m i;split at h
      .rename_i t p;obtain⟨q,r⟩:=jP p;subst q;subst r;cases h;have y:=f.2;subst y;exact⟨o,eT f.1.1.1.1.1,f.1.1.1.1.2,f.1.1.1.2,f.1.1.2,eT f.1.2,_,i,.inr ⟨n,rfl,rfl⟩⟩
      .cases h
     .cases h
  .cases h
 .cases h
theorem VP{p:Nat->Option Box}(h:bu B γ p w){b u:Nat}{q:Box}{e:Ty}{l:List e.den}{n:Int}{v:Value}(D:p b=some q)(y:q.aI=u)(f:q.buf=true)(E:q.ro=false)(j:q.val=.data (.slice e) l)
  (O:b5 γ p w (.part b u 0 n) .val [v]):vp w γ.I e (sub l 0 n) (γ.loc b) v/\0<e.size:=by
 obtain⟨X,k,H,Y,Z,k5,J,m,A,k7,k8,Q,k9⟩:=ba D y O.2;rw[Box.df f j] at H;obtain⟨rfl,rfl⟩:=dz (aE H);have r:=h.boxes b q D;unfold cJ at r;rw[f] at r;obtain⟨e3,l3,K,R,c⟩:=r;rw[j] at K;cases K;refine⟨?_,R⟩;obtain A:=ub A;have hlen:(sub l 0 n).length=n.toNat:=by
  have:n.toNat<=l.length:=by omega
  simp only[sub,gM,ma];omega
 rcases Q.2 rfl f with ⟨s,rfl,rfl⟩|⟨t,s,rfl⟩
 .rcases c with ⟨c,C⟩|⟨t,F,z,tid,L,c,_⟩
  .subst C;have:n.toNat=0:=by omega
   exact .inl ⟨s,by simp[sub],by rw[A,this]⟩
  .rw[s] at c;cases c
 .rcases c with ⟨c,C⟩|⟨M,F,z,tid,L,c,C,S,q6,q7,T,U,G⟩
  .rw[s] at c;cases c
  .rw[s] at c;obtain⟨rfl,rfl⟩:=dz (aE c);refine .inr ⟨t,m,z,tid,L,s,by rw[hlen];exact A,C,S,by rw[hlen];omega,T,U,λo V=>?_,λi x W=>G i x ?_⟩
   .have:=(h.sep b q t m o D s V).1;rw[E] at this;cases this
   .have g:((l.drop (0:Int).toNat).take n.toNat)[i]?=some x:=W;rw[gm] at g;split at g
    .simpa using g
    .cases g
theorem Pm{e:Ty}{v:aK}{b m:Nat}{s:Box}{l:List e.den}{j:Value}(o:bu B γ σ.mem w)(h:yd e σ v=some (b,m,s,l))(p:b5 γ σ.mem w v .val [j]):vp w γ.I e l (γ.loc b) j/\0<e.size:=by
 obtain⟨q,c,f,t,k,r,u,g,i⟩:=rR h;rcases i with ⟨rfl,rfl⟩|⟨n,rfl,rfl⟩
 .exact ab3 o q c f k g p
 .exact VP o q c f k g p
theorem oU{f:Nat}{s:Y2}(h:uh cx bf d f=some s):find cx.Nn f=some s:=by
 unfold uh at h;split at h
 .rename_i e b;split at h
  .obtain rfl:=aE h;exact b
  .cases h
 .rename_i b;obtain rfl:=aE h;exact b
 .rename_i b;obtain rfl:=aE h;exact b
 .cases h
theorem IK{f:Nat}{e:Ty}{i:List aK}{s:Array Value}(G:eF P f (.clone e))(h:cQ B N γ σ a w)(M:∀k,d=some k->k<N)(O:kV γ σ.mem w i s.toList)
  (g:(lH nb e d i σ).run=some aV) {K:Act->World->Prop} (Q:Cd B N γ σ a w d aV K) :
  (∃t m,P.funcs[f]?=some t/\(t.name == "runtime.NumGoroutine")=false/\t.body=some m)/\Calls P f s w λe w'=>∃v,e=.returned v/\K (a.put d v) w':=by
 unfold lH at g;split at g
 case h_2=>cases g
 rename_i k x;split at g
 case h_2=>cases g
 rename_i l bA R;change List e.den at l;obtain⟨u,g⟩:=aw g;have u:0<e.size:=by simpa using u
 obtain⟨n,g⟩:=ck g;obtain⟨aI,p,y⟩:=cV g;obtain rfl:=aE y;obtain⟨S,r,z,T,U⟩:=O.cons;have j:r=[]:=by have:=U.1;simpa using this
 subst j;obtain⟨A,C,V,W,X,D⟩:=mr h T R;have D:=ub D;refine⟨G.1,(G.2 A.I w s l (λb o Y=>C.ok.sV b o Y) ⟨W,[],by rw[z,D],X,rfl⟩ n).mono λq w' Z=>?_⟩;obtain⟨v,I',L,rfl,h1,H,h3⟩:=Z;refine⟨v,rfl,?_⟩;obtain⟨m1,J⟩:=C.ok.VO (b:=nb+k) (rN:={ val:=.data (.slice e) l,tid:=0,buf:=true,ro:=false,lk:=false,aI }) (λ_ hf=>hf.elim) h1 H (λE c hl=>.inr (h3 E c hl))
  (λF h0=>.inl (p F h0)) rfl rfl rfl u
 exact Q _ _ w' (C.step J m1 (M k rfl)<|H.rep (by simp) (bk _ _) rfl rfl rfl) (V.trans J)
theorem Nz{f:Nat}{e A:Ty}{t:Bool}{p:List e.den->A.den->Option (List e.den)}{r:List aK}{T:Array Value}(hs:eF P f (.own e A t p))(h:cQ B N γ σ a w)(hd:∀k,d=some k->k<N)(hv:kV γ σ.mem w r T.toList)
  (i:(qU e A t p d r σ).run=some aV) {K:Act->World->Prop} (hK:Cd B N γ σ a w d aV K) :
  (∃U D,P.funcs[f]?=some U/\(U.name == "runtime.NumGoroutine")=false/\U.body=some D)/\Calls P f T w λe w'=>∃v,e=.returned v/\K (a.put d v) w':=by
 unfold qU at i;split at i
 case h_2=>cases i
 rename_i v0 vs;split at i
 case h_2=>cases i
 rename_i x bA hg;split at i
 case h_2=>cases i
 rename_i b V E l F;obtain⟨G,u,i⟩:=bX i;obtain⟨W,H,g,hlk,X,s,l0,J,y⟩:=rR F;obtain⟨Y,L,Z,g1,g2⟩:=hv.cons;obtain⟨j,C,s2,z⟩:=qY h g2 hg;obtain⟨M,he⟩:=Pm C.ok F (g1.ext s2);refine⟨hs.1,(hs.2 j.I w T Y L l G (j.loc b) x (λb o hi=>C.ok.sV b o hi) Z M z u).mono λq w' hw=>?_⟩;obtain⟨I',h1,h2⟩:=hw;have hX:∀k,(∃c,j.loc b=some (k,c))->∃m c,bA.mem b=some m/\m.ro=false/\j.loc b=some (k,c):=λk ⟨c,hc⟩=>⟨E,c,W,X,hc⟩;cases t with
 | true =>
   cases d with
   | none=>cases i
   | some k =>
     obtain rfl:=aE i;obtain⟨v',L',rfl,S,h4⟩:=h2;refine⟨v',rfl,?_⟩;obtain⟨m1,O⟩:=C.ok.VO (b:=b) (rN:={ E with val:=.data (.slice e) G,aI:=V+1 }) hX h1 S h4 (λm Q=>by
      rw[W] at Q;obtain rfl:=aE Q;exact .inl (by simp[H])) rfl g s he
     exact hK _ _ w' (C.step O m1 (hd k rfl)<|S.rep (by simp) (bk _ _) rfl g rfl) (s2.trans O)
 | false =>
   have hr':JK v0=true/\aV=(bA.bT b { E with val:=.data (.slice e) G }).aS d (.y7 .nl):=by
    cases d with
    | none=>obtain⟨q1,q2⟩:=aw i;exact⟨q1,(aE q2).symm⟩
    | some k=>obtain⟨q1,q2⟩:=aw i;exact⟨q1,(aE q2).symm⟩
   obtain⟨hwh,rfl⟩:=hr';obtain rfl:l=l0:=by
    rcases y with ⟨_,q⟩|⟨n,rfl,_⟩
    .exact q
    .cases hwh
   obtain⟨rfl,R,S⟩:=h2;refine⟨_,rfl,?_⟩;obtain⟨m1,O⟩:=C.ok.VO (b:=b) (rN:={ E with val:=.data (.slice e) G }) hX h1 S (λblk c hl=>.inl ⟨c,hl⟩) (λm Q=>by
    rw[W] at Q;obtain rfl:=aE Q;exact .inr ⟨rfl,rfl,rfl,by rw[Box.df g J,Box.df (bx:={ E with val:=.data (.slice e) G }) g rfl,R]⟩) rfl g s he
   refine hK _ _ w' (C.aS O m1 hd (v:=.y7 .nl) (val:=.tuple #[]) ⟨#[],rfl,rfl⟩) ?_;cases d<;>exact s2.trans O
theorem IL{f g:Nat}{c:List aK}{t:Array Value}(I:eF P f (.D2 g))(h:cQ B N γ σ a w)(J:∀k,d=some k->k<N)(L:kV γ σ.mem w c t.toList)
  (j:(lI nb g d c σ).run=some aV) {K:Act->World->Prop} (M:Cd B N γ σ a w d aV K) :
  (∃x o,P.funcs[f]?=some x/\(x.name == "runtime.NumGoroutine")=false/\x.body=some o)/\Calls P f t w λe w'=>∃v,e=.returned v/\K (a.put d v) w':=by
 unfold lI at j;split at j
 .cases j
 .cases j
 .rename_i k v y z;obtain⟨A,j⟩:=aw j;obtain⟨C,p,D⟩:=cV j;obtain rfl:=aE D;obtain⟨l,r,E,O,Q⟩:=L.cons;have m:r=[]:=by have:=Q.1;simpa using this
  subst m;obtain⟨R,T,n⟩:=I;obtain⟨m1,F⟩:=h.ok.newVar (b:=nb+k) (v:=v) (tid:=0) p (cs:=l.cells) T (.inl rfl) (O.kE (λu e=>z u e) λe=>absurd e y);have s:t=#[l]:=by apply CQ.1;rw[E]
  rw[s];refine⟨R,(n w l).mono λq w' S=>?_⟩;obtain⟨rfl,rfl⟩:=S;refine⟨_,rfl,M _ _ _ (h.step F m1 (J k rfl) ?_) F⟩;refine⟨#[.pointer<|some ⟨w.heap.size,0,none⟩],by unfold xe;rw[A];rfl,rfl,λi b G H=>?_⟩;cases i with
  | zero =>
    obtain⟨rfl,rfl⟩:=dz (aE H);exact dJ (bx:={ val:=v,tid:=0,buf:=false,ro:=false,lk:=false,aI:=C }) (bk _ _) rfl ⟨w.heap.size,0,by simp[bq],rfl⟩
  | succ i=>cases H
 .cases j
theorem Cf(b:oT P B.G cx)(j:vq P B.G inl){f:Nat}{c:List aK}{xs:Array Value}(h:cQ B N γ σ a w)(n:∀k,d=some k->k<N)(o:kV γ σ.mem w c xs.toList)
  (i:(ti cx nb bf inl d f c σ).run=some aV) {K:Act->World->Prop} (p:Cd B N γ σ a w d aV K) :
  (∃q l,P.funcs[f]?=some q/\(q.name == "runtime.NumGoroutine")=false/\q.body=some l)/\Calls P f xs w λe w'=>∃v,e=.returned v/\K (a.put d v) w':=by
 unfold ti at i;split at i
 .rename_i e m;exact IK (b.Nn f _<|oU m) h n o i p
 .rename_i e A r s m;exact Nz (b.Nn f _<|oU m) h n o i p
 .rename_i g m;exact IL (b.Nn f _<|oU m) h n o i p
 .exact QH b j h n o i p
theorem C7{o:Oper}{f:Nat}{xs:Array Value}{K:Act->World->Prop}{Q:Exit->Act->World->Prop}(g:(execOp a.eval o).run P w=(callFunc f xs).run P w)
  (h:(∃c b,P.funcs[f]?=some c/\(c.name == "runtime.NumGoroutine")=false/\c.body=some b)/\Calls P f xs w λe w'=>∃v,e=.returned v/\K (a.put o.dst v) w'):o.wp P a w K Q:=by
 obtain⟨⟨c,b,i,j,k⟩,l⟩:=h;unfold Oper.wp;rw[g,QG i j k];refine l.mono λe w' m=>?_;obtain⟨v,rfl,n⟩:=m;exact n
theorem Tf(L:eS P cx){t ty:TypeId}{v:aK}{x:Value}{n:Int}(M:bu B γ σ.mem w)(D:b5 γ σ.mem w v .val [x])(q:XX (find cx.T t) v=true)(f:lenOf σ v=some n) :
  (Builtin.len_ #[t] ty #[x]).run P w=.ok (goInt n) w/\IntKind.i64.min<=n/\n<=IntKind.i64.max:=by
 have Y:(maxLen:Int)<=IntKind.i64.max:=by decide
 have Z:IntKind.i64.min<=0:=by decide
 have i:∀{base:Option Addr} {m c:Nat},(∃e,find cx.T t=some (.slice e))->x=.slice base m c->n=m->m<=maxLen->(Builtin.len_ #[t] ty #[x]).run P w=.ok (goInt n) w/\IntKind.i64.min<=n/\n<=IntKind.i64.max:=by
  intro base m c O hx hn M;obtain⟨e,O⟩:=O;obtain⟨Q,R,_⟩:=(L.T _ _ O).slice;subst hx;subst hn;refine⟨?_,by omega,by omega⟩;simp[Builtin.len_,run_underlying R]
 have j:∀{o:Option Ty},(match o with|some (.slice _)=>true|_=>false)=true->∃e,o=some (.slice e):=by
  intro o h;split at h
  .exact⟨_,rfl⟩
  .cases h
 cases v with
 | data u y =>
   cases u with
   | str =>
     obtain⟨rfl,E⟩:=we D;obtain rfl:=aE f;have hT:=(L.T _ _<|iH q).str;have e1:(⟨List.toArray (α:=UInt8) y⟩:ByteArray).size=List.length (α:=UInt8) y:=by
      show(List.toArray (α:=UInt8) y).size=_
      exact Iv
     refine⟨?_,?_,?_⟩
     .simp only[Builtin.len_];simp[run_underlying hT,e1,len]
     .simp only[len];omega
     .simp only[len];omega
   | slice e =>
     obtain rfl:=aE f;obtain⟨cs,F,E⟩:=dY.1 D;rcases F with ⟨⟨_,F⟩,S⟩|⟨G,off,s,F,S,h4,_⟩
     .rw[F] at E;exact i ⟨e,iH q⟩ (show x=.slice _ 0 0 from E) (by rw[S];rfl) (pj _)
     .rw[F] at E;exact i ⟨e,iH q⟩ (show x=.slice _ _ _ from E) rfl (iz S h4)
   | arr m e =>
     obtain⟨Q,R,_⟩:=(L.T _ _<|iH q).arr;simp only[lenOf] at f;cases p:Nat.ble m 4294967296 with
     | false=>rw[p] at f;cases f
     | true =>
       rw[p] at f;obtain rfl:=aE f;have:=CO p;have h9:(4294967296:Int)<=IntKind.i64.max:=by decide
       refine⟨by simp[Builtin.len_,run_underlying R],by omega,by omega⟩
   | _=>cases f
 | nJ =>
   obtain rfl:=aE f;obtain rfl:x=_:=by simpa [b5] using D
   exact i (j q) rfl rfl (pj _)
 | whole b aI =>
   simp only[lenOf] at f;split at f
   .rename_i H p;cases g:(Nat.beq H.aI aI&&H.buf) with
    | false=>rw[g] at f;cases f
    | true =>
      rw[g] at f;simp only[dF] at g;simp only[eG] at f;split at f
      .rename_i u l z;obtain rfl:=aE f;obtain⟨e',k,U,V,C⟩:=ba p (eT g.1) D.2;rw[Box.df U z] at V;obtain⟨rfl,rfl⟩:=dz (aE V);rcases C with ⟨C,I⟩|⟨G,s,C,I⟩
       .have J:=M.boxes b H p;rw[cJ,U] at J;obtain⟨e3,l3,W,q2,r⟩:=J;rw[z] at W;cases W;rcases r with ⟨_,r⟩|⟨G,s,X,tid,fr,r,_⟩
        .exact i (j q) (ub I) (by rw[r];rfl) (pj _)
        .rw[C] at r;cases r
       .obtain⟨X,tid,fr,W,q2,r,q4,_⟩:=((M.boxes b H p).row C).1 _ l U z;exact i (j q) (ub I) rfl (iz r q4)
      .cases f
   .cases f
 | part b aI lo n' =>
   simp only[lenOf] at f;cases A:live σ b aI with
   | false=>rw[A] at f;cases f
   | true =>
     rw[A] at f;obtain rfl:=aE f;obtain⟨H,p,K⟩:=jT A;obtain⟨e',k,V,C,I,g5,base,s,g6,g7,g8,gF,g9⟩:=ba p K D.2;exact i (j q) (ub g6) (aba I).symm (iz g7 g8)
 | _=>cases f
theorem eQ.take{w:World}{I:Nat->Nat->Prop}{e:Ty}{l:List e.den}{cs:List Value}(h:eQ w I e l cs)(k:Nat):eQ w I e (l.take k) (cs.take<|k*e.size):=by
 intro i x b;rw[gm] at b;split at b
 .rename_i c;have f:(i+1)*e.size<=k*e.size:=fN _ c;rw[zQ] at f;rw[XO,Kr,sw (by omega)];exact h i x b
 .cases b
theorem eQ.drop{w:World}{I:Nat->Nat->Prop}{e:Ty}{l:List e.den}{cs:List Value}(h:eQ w I e l cs)(k:Nat):eQ w I e (l.drop k) (cs.drop<|k*e.size):=by
 intro i x b;rw[l9] at b;rw[vZ,<-gn];exact h _ x b
theorem Ae{α:Type}{l m:List α}{b:Int}(c:0<=b)(h:b+m.length<=l.length):(over l b m).length=l.length:=by
 simp only[over,iP,gM,ma];omega
theorem eQ.over{w:World}{I:Nat->Nat->Prop}{e:Ty}{l m:List e.den}{cs b:List Value}{c:Int}(h:eQ w I e l cs)(q:eQ w I e m b)(k:b.length=m.length*e.size)(r:0<=c)
  (s:c+m.length<=l.length) (A:l.length*e.size<=cs.length):eQ w I e (over l c m) (aQ cs (c.toNat*e.size) b):=by
 have t:(c.toNat+m.length)*e.size<=l.length*e.size:=fN _ (by omega);rw[gn] at t;have n:=(h.take c.toNat).append (rest:=[]) q (by rw[gM,gM,sw (by omega),sw (by omega)]) k;rw[wX] at n;have C:=n.append (rest:=[]) (h.drop<|c.toNat+m.length) (by rw[iP,iP,gn,k,gM,gM,sw (by omega),sw (by omega)]);have u:aQ cs (c.toNat*e.size) b=cs.take (c.toNat*e.size)++b++cs.drop ((c.toNat+m.length)*e.size):=by
  simp only[aQ,k,gn]
 rw[u];intro i x f;have hi:i<l.length:=by have:=(ix.1 f).1;rw[Ae r s] at this;exact this
 have v:(i+1)*e.size<=l.length*e.size:=fN _ hi;by_cases g:(c.toNat+m.length)*e.size+(l.length-(c.toNat+m.length))*e.size=l.length*e.size
 .have y:eQ w I e (Go.Ge.over l c m) (cs.take (c.toNat*e.size)++b++(cs.drop<|(c.toNat+m.length)*e.size)):=by
   intro i x f;by_cases o:i<c.toNat+m.length
   .have j:(l.take c.toNat++m)[i]?=some x:=by
     simp only[Go.Ge.over] at f;rw[Qh<|by rw[iP,gM];omega] at f;exact f
    have p:(i+1)*e.size<=(c.toNat+m.length)*e.size:=fN _ o;rw[mU<|by rw[iP,gM,k,sw (by omega),<-gn];exact p];exact n i x j
   .have j:(l.drop<|c.toNat+m.length)[i-(c.toNat+m.length)]?=some x:=by
     simp only[Go.Ge.over] at f;rw[Vt<|by rw[iP,gM];omega] at f;rw[<-f];congr 1;rw[iP,gM];omega
    have:=h.drop (c.toNat+m.length) _ x j;have z:i*e.size=(cs.take (c.toNat*e.size)++b).length+(i-(c.toNat+m.length))*e.size:=by
     rw[iP,gM,k,sw (by omega),<-gn,<-gn];congr 1;omega
    rw[z,<-vZ,BL];exact this
  exact y i x f
 .exact absurd (by rw[<-gn];congr 1;omega) g
theorem uw(h:cQ B N γ σ a w){e:Ty}{m:List e.den}{b S:Nat}{q:List CU}{chk:Nat->Ty->Bool}{g:Int}{base:Option Addr}{f:List Value}
  (hr:(jR e m b S q chk g σ).run=some aV) (hE:eQ w γ.I e m f) (hn:f.length=m.length*e.size) (aek:∀u∈f,u.oneCell'=true) (h0:0<=g)
  (ai8:∀bx (l:List e.den),σ.mem b=some bx->bx.aI=S->bx.buf=true->bx.val=.data (.slice e) l->q=[]->g+m.length<=l.length)
  (ai9:∀bx k (l:List e.den),σ.mem b=some bx->bx.aI=S->bx.buf=false->(Y3 q bx.val).run=some (.data (.arr k e) l)->chk k e=true->g+m.length<=k)
  (T:m=[]\/∃j c,γ.loc b=some (j,c)/\base=some ⟨j,cL q+g.toNat*e.size,none⟩) :
  ∃w',(match base with|some ad=>storeCells ad f|none=>pure ()).run P w=.ok () w'/\cQ B N γ aV a w'/\Ext B γ σ.mem w γ aV.mem w':=by
 unfold jR at hr;split at hr
 case h_2=>cases hr
 rename_i bx hb;obtain⟨hcd,t⟩:=aw hr;simp only[dF,kS] at hcd;obtain⟨⟨z,hlk⟩,hro⟩:=hcd;have z:=eT z;have D:=h.ok.boxes b bx hb;have O:m=[]->f=[]:=λhm=>by subst hm;simpa using hn
 have Q:m=[]->(match base with|some ad=>storeCells ad f|none=>pure ()).run P w=.ok () w:=λhm=>by
  rw[O hm];cases base<;>rfl
 have A:∀(j c:Nat) (cur:Array Value) (tid:TypeId) (G:Nat×Nat),γ.loc b=some (j,c)->w.heap[j]?=some (.cells cur tid G)->lU cur G->cL q+g.toNat*e.size+f.length<=cur.size ->
   (match base with|some ad=>storeCells ad f|none=>pure ()).run P w=.ok () (w.setRow j (aQ cur.toList (cL q+g.toNat*e.size) f).toArray):=by
  intro j c cur tid G hl hg hth E;rcases T with hm|⟨aea,c',hl',rfl⟩
  .rw[Q hm,O hm];simp only[aQ,wX,gi,v7,x6,Array.toArray_toList];rw[setRow_self w j cur tid G hg]
  .rw[hl] at hl';obtain⟨rfl,rfl⟩:=dz (aE hl');have:=cS (P:=P) j (cL q+g.toNat*e.size) tid G f 0 cur w hg hth (by omega) aek;rw[v7] at this;exact this
 split at t
 .rename_i n;split at t
  case h_2=>cases t
  rename_i u l y;split at t
  case h_2=>cases t
  rename_i o U;obtain rfl:=aE t;obtain⟨hq,V⟩:=jP U;subst hq;obtain rfl:o=m:=V;have E:=ai8 bx l hb z n y rfl;have hlen:=Ae h0 E;unfold cJ at D;rw[n] at D;obtain⟨e2,l2,j1,j2,j3⟩:=D;rw[y] at j1;cases j1;have W:({ bx with val:=.data (.slice e) (over l g o) }:Box).row=bx.row:=by
   rw[Box.df n y];exact(Box.df (bx:=⟨.data (.slice e)<|over (α:=e.den) l g o,bx.tid,bx.buf,bx.ro,bx.lk,bx.aI⟩) (l:=over (α:=e.den) l g o) n rfl).trans (by rw[hlen])
  rcases j3 with ⟨R,X⟩|⟨j,cap,cur,tid,G,R,X,k3,H,k4,k5,k6,k7⟩
  .subst X;have hm0:o=[]:=by
    cases o with
    | nil=>rfl
    | cons x r=>simp at E;omega
   subst hm0;have e1:σ.bT b { bx with val:=.data (.slice e) (over ([]:List e.den) g []) }=σ:=by
    have:({ bx with val:=.data (.slice e) (over ([]:List e.den) g []) }:Box)=bx:=by
     cases bx;simp only at y;subst y;simp[over]
    rw[this];cases σ;simp only[St.bT]
    congr 1
    funext i;by_cases hi:i=b
    .subst hi;simp only[D1,eG];exact hb.symm
    .simp[iF hi]
   rw[e1];exact⟨w,Q rfl,h,Ext.refl _ _ _ _⟩
  .have s:cL ([]:List CU)+g.toNat*e.size+f.length<=cur.size:=by
    have:(g.toNat+o.length)*e.size<=cap*e.size:=fN _ (by omega);rw[gn] at this;simp only[cL];omega
   have L:=A j cap cur tid G R X k3.th s;have J:g.toNat*e.size+f.length<=cur.toList.length:=by simp only[cL] at s;show _<=cur.size;omega
   have F:(aQ cur.toList (g.toNat*e.size) f).toArray.size=cur.size:=by have:=bH J;simpa using this
   obtain⟨m1,m2⟩:=h.ok.write hb hro R X (cur':=(aQ cur.toList (g.toNat*e.size) f).toArray) (v:=.data (.slice e) (over l g o)) F W
    (λw' dP hx hg=>by
     show cJ γ dP w' b { bx with val:=.data (.slice e) (over l g o) }
     unfold cJ;simp only[n];refine⟨e,_,rfl,j2,.inr ⟨j,cap,_,tid,G,R,hg,k3.same F,H,by rw[hlen];exact k4,k5,by rw[F];exact k6,?_⟩⟩;intro i x hx';have:=eQ.over (l:=l) (cs:=cur.toList) k7 hE hn h0 E (by show _<=cur.size;rw[k6];exact fN _ k4) i x hx';simpa using bB.mono hx.I hx.cells this)
   simp only[cL,pv] at L;exact⟨_,L,h.go m2 m1,m2⟩
 .rename_i n;obtain⟨old,M,Y⟩:=bind_some t;split at Y
  case h_2=>cases Y
  rename_i k u l;obtain⟨hck,Z⟩:=aw Y;split at Z
  case h_2=>cases Z
  rename_i o U;obtain⟨c,hs,hr5⟩:=bind_some Z;obtain rfl:=aE hr5;obtain⟨hq,V⟩:=jP U;subst hq;obtain rfl:o=m:=V;have E:=ai9 bx k l hb z n M hck;unfold cJ at D;rw[n] at D;obtain⟨j,cap,cur,tid,G,R,X,k3,H,k4⟩:=D;obtain⟨p1,p2⟩:=vm k4 M;have hvs:da (.data (.arr k e) l)=k*e.size:=rfl;rw[hvs] at p1 p2;obtain⟨r1,r2,r3⟩:=p2;have hll:g+o.length<=(List.length (α:=e.den) l:Int):=by rw[r1];exact E
  have hlen:List.length (α:=e.den) (over (α:=e.den) l g o)=List.length (α:=e.den) l:=Ae (l:=l) h0 hll;have ajb:(g.toNat+o.length)*e.size<=k*e.size:=fN _ (by omega);rw[gn] at ajb;have s:cL q+g.toNat*e.size+f.length<=cur.size:=by have p1':cL q+k*e.size<=cur.size:=p1;omega
  have L:=A j cap cur tid G R X k3 s;have C:((cur.toList.drop<|cL q).take<|k*e.size).length=k*e.size:=r2;have K:g.toNat*e.size+f.length<=((cur.toList.drop<|cL q).take<|k*e.size).length:=by rw[C];omega
  have ajc:bB w γ.I (.arr k e) (over l g o) (aQ ((cur.toList.drop<|cL q).take<|k*e.size) (g.toNat*e.size) f):=by
   refine⟨hlen.trans r1,by rw[bH K,C],?_⟩;exact eQ.over (l:=l) r3 hE hn h0 hll (by rw[C];exact zR (by rw[r1]))
  have ajd:=qX cur.toList (cL q) (g.toNat*e.size) (k*e.size) f (by omega) p1;have W:({ bx with val:=c }:Box).row=bx.row:=HN (bx:=bx) (p:=q) (v:=.data (.arr k e) (over l g o)) (by rw[n];exact hs) λhp _=>by
   subst hp;have y:bx.val=.data (.arr k e) l:=aE M;rw[Box.pD n y];exact Box.pD (bx:=⟨_,bx.tid,bx.buf,bx.ro,bx.lk,bx.aI⟩) n rfl
  have J:cL q+g.toNat*e.size+f.length<=cur.toList.length:=s;have F:(aQ cur.toList (cL q+g.toNat*e.size) f).toArray.size=cur.size:=by have:=bH J;simpa using this
  obtain⟨m1,m2⟩:=h.ok.write hb hro R X (cur':=(aQ cur.toList (cL q+g.toNat*e.size) f).toArray) (v:=c) F W
   (λw' dP hx hg=>by
    show cJ γ dP w' b { bx with val:=c }
    unfold cJ;simp only[n];refine⟨j,cap,_,tid,G,R,hg,k3.same F,H,?_⟩;have:=yh (k4.ext hx) M hs (show b5 γ dP w' (.data (.arr k e)<|over l g o) .cells _ from bB.mono hx.I hx.cells ajc) (by rw[bH K,C];rfl);rw[ajd] at this;simpa using this)
  exact⟨_,L,h.go m2 m1,m2⟩
theorem Ey{e:Ty}{Q:Int->List e.den}{t:aK}{tv:Value}{r:Int×St}(h:cQ B N γ σ a w)(hv:b5 γ σ.mem w t .val [tv])(T:(FX e Q t σ).run=some r) :
  ∃base cap,tv=.slice base r.1.toNat cap/\0<=r.1/\∀g,eQ w γ.I e (Q r.1) g->g.length=(Q r.1).length*e.size->(∀u∈g,u.oneCell'=true)->(Q r.1).length<=r.1.toNat ->
   ∃w',(match base with|some ad=>storeCells ad g|none=>pure ()).run P w=.ok () w'/\cQ B N γ r.2 a w'/\Ext B γ σ.mem w γ r.2.mem w':=by
 unfold FX at T;split at T
 .rename_i b G lo n;obtain⟨bA,f,H⟩:=bind_some T;obtain rfl:=aE H;have o:∃p,σ.mem b=some p/\p.aI=G:=by
   unfold jR at f;split at f
   .rename_i p v;obtain⟨z,_⟩:=aw f;simp only[dF] at z;exact⟨p,v,eT z.1.1⟩
   .cases f
  obtain⟨p,v,x⟩:=o;obtain⟨e',k,J,R,S,g5,base,cap,g6,g7,g8,gF,K⟩:=ba v x hv.2;refine⟨base,cap,by simpa using g6,S,λg X Y A E=>?_⟩;dsimp only at X Y E;refine uw h f X Y A R (λL l y _ j m _=>?_) (λL k' l y _ j F _=>?_) ?_
  .obtain rfl:=aE (v.symm.trans y);rw[Box.df j m] at J;obtain⟨_,rfl⟩:=dz (aE J);omega
  .obtain rfl:=aE (v.symm.trans y);have m:p.val=.data (.arr k' e) l:=aE F;rw[Box.pD j m] at J;obtain⟨_,rfl⟩:=dz (aE J);omega
  .rcases K with K|⟨s,c,K,Z⟩
   .left;exact aaT (by rw[K,show(0:Int).toNat=0 from rfl] at E;rw[K];omega)
   .by_cases hm:Q n=[]
    .exact .inl hm
    .right;have he:e'=e:=by
      unfold jR at f;rw[v] at f;obtain⟨_,i⟩:=aw f;split at i
      .rename_i j;split at i
       case h_2=>cases i
       rename_i u l m;split at i
       case h_2=>cases i
       rename_i m' C;obtain⟨U,_⟩:=jP C;rw[Box.df j m] at J;obtain⟨rfl,_⟩:=dz (aE J);exact U.symm
      .rename_i j;obtain⟨old,F,D⟩:=bind_some i;split at D
       case h_2=>cases D
       rename_i k' u l;obtain⟨_,M⟩:=aw D;split at M
       case h_2=>cases M
       rename_i m' C;obtain⟨U,_⟩:=jP C;have m:p.val=.data (.arr k' u) l:=aE F;rw[Box.pD j m] at J;obtain⟨rfl,_⟩:=dz (aE J);exact U.symm
     subst he;exact⟨s,c,K,by rw[Z];simp[cL]⟩
 .rename_i b G;split at T
  case h_2=>cases T
  rename_i n V;obtain⟨bA,f,H⟩:=bind_some T;obtain rfl:=aE H;have o:∃p,σ.mem b=some p/\p.aI=G:=by
   unfold jR at f;split at f
   .rename_i p v;obtain⟨z,_⟩:=aw f;simp only[dF] at z;exact⟨p,v,eT z.1.1⟩
   .cases f
  obtain⟨p,v,x⟩:=o;obtain⟨e',k,g1,J,R⟩:=ba v x hv.2;have hbx:=h.ok.boxes b p v;have hl:∃l:List e.den,p.val=.data (.slice e) l/\n=l.length:=by
   unfold jR at f;rw[v] at f;obtain⟨_,i⟩:=aw f;split at i
   .split at i
    case h_2=>cases i
    rename_i u l hq0 m;split at i
    case h_2=>cases i
    rename_i m' C;obtain⟨U,_⟩:=jP C;subst U;refine⟨l,m,?_⟩;simp only[lenOf,v,x,g1,D1,Bool.and_self,eG,m] at V;exact(aE V).symm
   .rename_i j;rw[g1] at j;cases j
  obtain⟨l,m,rfl⟩:=hl;rw[Box.df g1 m] at J;obtain⟨rfl,rfl⟩:=dz (aE J);have fin:∀{base:Option Addr} {cap:Nat},tv=.slice base l.length cap->(l.length=0\/∃s c,γ.loc b=some (s,c)/\base=some ⟨s,0,none⟩) ->
    ∃base cap,tv=.slice base (l.length:Int).toNat cap/\(0:Int)<=l.length/\∀g,eQ w γ.I e (Q l.length) g->g.length=(Q l.length).length*e.size->(∀u∈g,u.oneCell'=true)->(Q l.length).length<=(l.length:Int).toNat ->
     ∃w',(match base with|some ad=>storeCells ad g|none=>pure ()).run P w=.ok () w'/\cQ B N γ bA a w'/\Ext B γ σ.mem w γ bA.mem w':=by
   intro base cap htv hb0;refine⟨base,cap,by simpa using htv,by omega,λg X Y A E=>?_⟩;refine uw h f X Y A (by omega) (λL l' y _ j W _=>?_) (λL k' l' y _ j F _=>?_) ?_
   .obtain rfl:=aE (v.symm.trans y);rw[m] at W;cases W;omega
   .obtain rfl:=aE (v.symm.trans y);rw[g1] at j;cases j
   .rcases hb0 with hb0|⟨s,c,q1,q2⟩
    .left;exact aaT (by omega)
    .right;exact⟨s,c,q1,by rw[q2];simp[cL]⟩
  rcases R with ⟨R,S⟩|⟨s,cap,R,S⟩
  .obtain S:tv=_:=by simpa using S
   rw[cJ,g1] at hbx;obtain⟨e2,l2,j1,j2,j3⟩:=hbx;rw[m] at j1;cases j1;rcases j3 with ⟨_,j4⟩|⟨_,_,_,_,_,j3,_⟩
   .exact fin (base:=none) (cap:=0) (by rw[S,j4];rfl) (.inl<|by rw[j4];rfl)
   .rw[R] at j3;cases j3
  .exact fin (ub S) (.inr ⟨s,cap,R,rfl⟩)
 .rename_i b G q u k lo n;obtain⟨bA,f,H⟩:=bind_some T;obtain rfl:=aE H;have o:∃p,σ.mem b=some p/\p.aI=G:=by
   unfold jR at f;split at f
   .rename_i p v;obtain⟨z,_⟩:=aw f;simp only[dF] at z;exact⟨p,v,eT z.1.1⟩
   .cases f
  obtain⟨p,v,x⟩:=o;obtain⟨U,s,c,g1,R,S,g5,base,cap,g6,g7,K⟩:=ba v x hv.2;refine⟨base,cap,by simpa using g6,S,λg X Y A E=>?_⟩;dsimp only at X Y E;refine uw h f X Y A R (λL l y _ j m hq0=>absurd hq0 U) (λL k' l y _ j F O=>?_) ?_
  .simp only[dF] at O;have:=eT O.1;omega
  .rcases K with K|Z
   .left;exact aaT (by rw[K,show(0:Int).toNat=0 from rfl] at E;rw[K];omega)
   .by_cases hm:Q n=[]
    .exact .inl hm
    .right;have he:u=e:=by
      unfold jR at f;rw[v] at f;obtain⟨_,i⟩:=aw f;split at i
      .split at i
       .exact absurd rfl U
       .cases i
      .obtain⟨old,F,D⟩:=bind_some i;split at D
       case h_2=>cases D
       obtain⟨O,M⟩:=aw D;split at M
       case h_2=>cases M
       rename_i m' C;obtain⟨hq',_⟩:=jP C;simp only[dF] at O;exact(Ty.eq_of_beq O.2).trans hq'.symm
     subst he;exact⟨s,c,g1,Z⟩
 .cases T
theorem K0{I:Nat->Nat->Prop}{e:Ty}{m:List e.den}{v:Value}(h:z6 w I e m v)(n:Nat)(q:n<=m.length) :
  ∃b,(Builtin.firstCells e.size n v).run P w=.ok b.toArray w/\b.length=n*e.size/\(∀u∈b,u.oneCell'=true)/\eQ w I e (m.take n) b/\(Builtin.lenOf v).run P w=.ok m.length w:=by
 rcases h with ⟨rfl,g,c,k,r,s⟩|⟨t,y,c,k,r,s,z⟩
 .obtain rfl:n=0:=by simpa using q
  subst k;refine⟨[],?_,by simp,λu A=>absurd A (by simp),λi x f=>absurd f (by simp),rfl⟩;cases g with
  | none=>rfl
  | some C=>exact run_firstCells_some w e.size 0 C 0 c [] (by simp) (λj v o=>by cases o)
 .obtain⟨b,p,D,E,F⟩:=C1 (w:=w) (l:=m.take n) λi x f=>by
   rw[gm] at f;split at f
   .exact z i x f
   .cases f
  rw[gM,sw q] at p;refine⟨b,?_,p,E,F,by rw[k];rfl⟩;rw[k];exact run_firstCells_some w e.size n _ m.length c b p (λj u o=>by rw[addr_add];exact D j u o)
theorem K1{I:Nat->Nat->Prop}{s:aq}(n:Nat)(h:n<=s.length) :
  ∃e,(Builtin.firstCells 1 n<|.string ⟨s.toArray⟩).run P w=.ok e.toArray w/\e.length=n/\(∀u∈e,u.oneCell'=true)/\eQ w I (.int .u8) ((av s).take n:List Int) e/\(Builtin.lenOf<|.string ⟨s.toArray⟩).run P w=.ok (av s).length w:=by
 refine⟨(s.take n).map λb=>Value.int .u8 b.toNat,?_,by simp[h],λu l=>?_,λi x m=>?_,?_⟩
 .simp only[Builtin.firstCells,Sem.run_pure]
  congr 1
  apply SQ;have o:(⟨s.toArray⟩:ByteArray).extract 0 n=⟨(s.take n).toArray⟩:=by
   have:=S6 s (i:=0) (j:=n) (by omega) (by omega);simpa [sub,minus] using this
  rw[o];simp
 .obtain⟨_,_,rfl⟩:=vb.1 l;rfl
 .have c:((av s).take n)[i]?=some x:=m;rw[gm] at c;split at c
  .rename_i p;simp only[av,Kj] at c;cases g:s[i]? with
   | none=>rw[g] at c;cases c
   | some b =>
     rw[g] at c;obtain rfl:(b.toNat:Int)=x:=aE c;refine⟨?_,QB b⟩;apply Nk;intro j;rw[gm];split
     .rename_i f;obtain rfl:j=0:=by simp[Ty.size] at f;exact f
      rw[l9];simp[Ty.size,g,p]
     .rename_i f;obtain⟨k,rfl⟩:∃k,j=k+1:=⟨j-1,by simp[Ty.size] at f;omega⟩;simp
  .cases c
 .simp[Builtin.lenOf,av,ByteArray.size]
theorem xw(s:aq):(av s).length=s.length:=CS ..
theorem ab4{s:aq}{n:Nat}(h:n<=(av s).length):n<=s.length:=by rw[xw] at h;exact h
theorem VQ(i:bu B γ σ.mem w){e:Ty}{m:List e.den}{x:aK}{v:Value}(f:b5 γ σ.mem w x .val [v])(h:ug e σ x=some m)(n:Nat)(g:n<=m.length) :
  ∃b,(Builtin.firstCells e.size n v).run P w=.ok b.toArray w/\b.length=n*e.size/\(∀u∈b,u.oneCell'=true)/\eQ w γ.I e (m.take n) b/\(Builtin.lenOf v).run P w=.ok m.length w:=by
 unfold ug at h;split at h
 .rename_i t;obtain⟨q,j⟩:=jP h;subst q;subst j;obtain⟨k,_⟩:=we f;rw[k];have c:n<=List.length (α:=UInt8) t:=ab4 g;obtain⟨b,l,o,p,r,y⟩:=K1 (P:=P) (w:=w) (I:=γ.I) (s:=t) n c;exact⟨b,l,by rw[o];simp[Ty.size],p,r,y⟩
 .exact K0 (qC i f h) n g
theorem K2(D:eS P cx){z E F:TypeId}{t x:Operand}(h:cQ B N γ σ a w)(G:∀k,d=some k->k<N)(f:(xg cx d z (cp σ t) (cp σ x) σ).run=some aV) :
  mb P B N γ σ a w d (Builtin.copy_ #[z,E] F #[a.eval t,a.eval x]) aV:=by
 unfold xg at f;split at f
 case h_2=>cases f
 rename_i e H;split at f
 case h_1=>cases f
 rename_i m i;obtain⟨r,n,o⟩:=bind_some f;obtain rfl:=aE o;obtain⟨I,J,K,k3,k4⟩:=(D.T _ _ H).slice;obtain⟨j,p,L,c2,M⟩:=Ey (P:=P) h (h.cp t) n;have hlen:(gC (α:=e.den) m r.1).length=Nat.min m.length r.1.toNat:=by
  simp only[gC,gM];exact Nat.min_comm _ _
 obtain⟨l,O,Q,R,A,S⟩:=VQ (P:=P) h.ok (h.cp x) i (Nat.min m.length r.1.toNat) (Nat.min_le_left _ _);have c:(m.take<|Nat.min m.length r.1.toNat)=gC (α:=e.den) m r.1:=by
  simp only[gC];rcases Nat.le_total m.length r.1.toNat with b|b
  .rw[show Nat.min m.length r.1.toNat=m.length from sw b,zN (cD _),zN b]
  .rw[show Nat.min m.length r.1.toNat=r.1.toNat from abo b]
 rw[c] at A;obtain⟨w',g,U,V⟩:=M l A (by rw[Q,hlen]) R (by rw[hlen];exact Nat.min_le_right _ _);have C:(gC (α:=e.den) m r.1).length<=maxLen:=by
  rcases SE (gC (α:=e.den) m r.1).length with W|W
  .omega
  .rw[hlen];refine iz (Nat.min_le_left _ _) ?_;have hv:=h.cp x;unfold ug at i;split at i
   .rename_i s X;obtain⟨q,Y⟩:=jP i;subst q;subst Y;rw[X] at hv;obtain⟨_,u⟩:=we hv;exact iz (zR<|xw s) u
   .rcases qC h.ok hv i with ⟨rfl,_⟩|⟨_,_,p,_,u,Z,_⟩
    .exact pj _
    .exact iz u Z
 refine⟨goInt (gC (α:=e.den) m r.1).length,w',γ,?_,?_,?_⟩
 .have y:=K.sizeOf w;simp only[Builtin.copy_,L];simp only[afB,aa1,aa2,Sem.run_bind,run_underlying J,Result.andThen_ok,S,y,O,hlen];cases j with
  | none=>simp only[Sem.run_pure,Result.andThen_ok] at g⊢;injection g with _ g;subst g;rfl
  | some ad=>simp only at g⊢;simp only[Sem.run_bind,g,Result.andThen_ok,Sem.run_pure]
 .have h9:(maxLen:Int)<=IntKind.i64.max:=by decide
  have h8:IntKind.i64.min<=0:=by decide
  have:=U.uo G (v:=.data (.int .i64) (len<|gC (α:=e.den) m r.1)) (val:=goInt (gC (α:=e.den) m r.1).length) (mkInt ⟨by simp only[len];omega,by simp only[len];omega⟩);exact this
 .cases d<;>exact V
theorem IM(s:eS P cx){o v:TypeId}{t:Operand}(h:cQ B N γ σ a w)(j:(xh cx o (cp σ t) σ).run=some aV) :
  mb P B N γ σ a w none (Builtin.clear_ #[o] v #[a.eval t]) aV:=by
 unfold xh at j;split at j
 case h_2=>cases j
 rename_i e y;obtain⟨r,l,m⟩:=bind_some j;obtain rfl:=aE m;obtain⟨A,C,D,S,E⟩:=(s.T _ _ y).slice;obtain⟨f,F,G,U,H⟩:=Ey (P:=P) h (h.cp t) l;have hlen:(iB r.1 e.zero).length=r.1.toNat:=by simp[iB]
 obtain⟨z,J,p⟩:=D.zero w;have K:=uu p E r.1.toNat;have g:=jS w γ.I (.arr r.1.toNat e);have b:(Builtin.zeroCells z.cells r.1.toNat).toList=dX (.arr r.1.toNat e):=by
  have n:z.cells.size=e.size:=by rw[<-dS e,<-p];simp
  rw[<-K];simp only[Builtin.zeroCells,madeCells,n]
 obtain⟨w',c,L,M⟩:=H (dX<|.arr r.1.toNat e) (λi x O=>g.2.2 i x O) (by rw[dS,hlen];rfl) (λu Q=>g.one u Q) (zR hlen);refine⟨.tuple #[],w',γ,?_,L,M⟩;simp only[Builtin.clear_,G];simp only[afB,aa1,Sem.run_bind,run_underlying C,Result.andThen_ok];cases f with
 | none=>simp only[Sem.run_pure,Result.andThen_ok] at c⊢;injection c with _ c;subst c;rfl
 | some V =>
   simp only at c;by_cases q:r.1.toNat=0
   .have:dX (.arr r.1.toNat e)=[]:=aaT (by rw[dS];simp[Ty.size,q]);rw[this] at c;injection c with _ c
    subst c;rw[q];simp only[Sem.run_pure,Result.andThen_ok]
   .obtain⟨k,R⟩:∃k,r.1.toNat=k+1:=⟨r.1.toNat-1,by omega⟩;rw[R] at c b⊢;simp only[Sem.run_bind,J,Result.andThen_ok,b,c,Sem.run_pure]
theorem Ez{b:Bool}{p q r:aK}{u v:Value}(i:b5 γ σ.mem w p .val [u])(j:b5 γ σ.mem w q .val [v])(g:(Qm b p q).run=some r) :
  ∃z,((if b then Builtin.min2 u v else Builtin.max2 u v)).run P w=.ok z w/\b5 γ σ.mem w r .val [z]:=by
 unfold Qm at g;split at g
 .rename_i k n o m;obtain⟨l,h⟩:=aw g;obtain rfl:=xa l;obtain rfl:=aE h;obtain⟨rfl,e⟩:=sy i;obtain⟨rfl,f⟩:=sy j;have cmp:∀n m:Int,k.min<=n/\n<=k.max->k.min<=m/\m<=k.max->b5 γ σ.mem w (.data (.int k)<|afT n m) .val [.int k<|if m<n then m else n]/\b5 γ σ.mem w (.data (.int k)<|imax n m) .val [.int k<|if m > n then m else n]:=by
   intro n m e f;constructor
   .unfold afT;by_cases c:m<n
    .simp only[c,HE,eG,mh];exact mkInt f
    .simp only[c,XS,iD,sR];exact mkInt e
   .unfold imax;by_cases c:n<m
    .simp only[c,HE,eG,gt_iff_lt,mh];exact mkInt f
    .simp only[c,XS,iD,gt_iff_lt,sR];exact mkInt e
  cases b with
  | true=>exact⟨_,rfl,(cmp n m e f).1⟩
  | false=>exact⟨_,rfl,(cmp n m e f).2⟩
 .cases g
end
end Go.Ge
namespace Go.Ge
open RowKit
section
variable {P:Program} {B:qA} {N:Nat} {γ:Gh} {σ aV:St} {a:Act} {w w':World} {d:Option Nat} {cx:Ctx} {nb:Nat} {bf:List Nat} {inl:Nat->List aK->St->Tree (aK×St)}
theorem QI{f:Operand->aK}{l:List Operand}{x:aK}(h:l.map f=[x]):∃o,l=[o]/\f o=x:=by
 cases l with
 | nil=>cases h
 | cons o r=>cases r with
   | nil=>exact⟨o,rfl,by simpa using h⟩
   | cons p r=>simp at h
theorem JT{f:Operand->aK}{l:List Operand}{x y:aK}(h:l.map f=[x,y]):∃o p,l=[o,p]/\f o=x/\f p=y:=by
 cases l with
 | nil=>cases h
 | cons o r =>
   obtain⟨p,b,c⟩:=QI (l:=r) (f:=f) (x:=y) (by simp at h⊢;exact h.2);subst b;exact⟨o,p,rfl,by simp at h;exact h.1,c⟩
theorem eI{b:Type}{a:Array b}{l:List b}(h:a.toList=l):a=l.toArray:=by rw[<-h]
theorem Zk{c:Type}(k:Value->Array Value->Sem c)(x:Value)(b:Array Value):(match(#[x]++b)[0]? with|some recv=>k recv ((#[x]++b).extract 1 (#[x]++b).size)|x=>stuck "call: a method without a receiver")=k x b.toList.toArray:=by
 have e:(#[x]++b)[0]?=some x:=by rw[<-aa4,O2];rfl
 have f:(#[x]++b).extract 1 (#[x]++b).size=b.toList.toArray:=by
  apply SQ;rw[Array.toList_extract,O2,abh];simp[List.extract];rw[<-Kl,Iw]
 rw[e,f]
theorem VR(V:eS P cx)(H:oT P B.G cx)(R:vq P B.G inl){o:Oper}{c:Call}(L:o.op=.call c)(h:cQ B N γ σ a w)(O:∀k,o.dst=some k->k<N)
  (l:(ui cx nb bf inl o.dst o.type c σ).run=some aV) {K:Act->World->Prop} {Q:Exit->Act->World->Prop} (M:Cd B N γ σ a w o.dst aV K):o.wp P a w K Q:=by
 unfold ui at l;split at l
 .rename_i b j;split at l
  ·
   rename_i x t A S;obtain⟨m,p,rfl⟩:=QI A;cases W:XX (find cx.T t) (cp σ m) with
   | false =>
     rw[W] at l;simp only[iD] at l;split at l
     .rename_i e b aI q u k lo n he A;obtain⟨hl,g⟩:=aw l;simp only[dF,nI] at hl;obtain rfl:=aE g;obtain⟨bx,hbx,D⟩:=jT hl.1;have hv:=h.cp m;rw[A] at hv;obtain⟨_,X,c',g1,g2,g3,g4,base,cap,g5,g6,g7⟩:=ba hbx D hv.2;obtain g5:a.eval m=_:=by simpa using g5
      refine bO (s:=Builtin.len_ c.argTypes o.type (c.args.map a.eval)) ?_ (bD h O (x:=.int .i64 n) ?_<|mkInt ?_) M
      .unfold execOp;simp only[L,resolve,j,invoke,builtin];rfl
      .rw[eI p,eI S,show Array.map a.eval [m].toArray=#[a.eval m] from by simp,g5];simp[Builtin.len_,run_underlying (yj V he).1,aba g3];rfl
      .exact⟨Int.le_trans (by decide) g3,Int.le_trans hl.2 (by decide)⟩
     .exact absurd l (by intro k;cases k)
   | true =>
   have g:(match lenOf σ (cp σ m) with|some n=>Tree.ret (σ.aS o.dst<|.data (.int .i64) n)|none=>.fail).run=some aV:=by rw[W] at l;exact l
   split at g
   .rename_i n hn;obtain rfl:=aE g;obtain⟨l1,l2⟩:=Tf (ty:=o.type) V h.ok (h.cp m) W hn;refine bO (s:=Builtin.len_ c.argTypes o.type (c.args.map a.eval)) ?_ (bD h O (x:=.int .i64 n) ?_<|mkInt l2) M
    .unfold execOp;simp only[L,resolve,j,invoke,builtin];rfl
    .rw[eI p,eI S,show Array.map a.eval [m].toArray=#[a.eval m] from by simp];exact l1
   .exact absurd g (by intro k;cases k)
  .rename_i s x t u A S;obtain⟨os,m,p,rfl,rfl⟩:=JT A;have key:(∃e,P.underlying u=some (.slice e))\/P.underlying u=some .string->(gV cx nb o.dst t (cp σ os) (cp σ m) σ).run=some aV->o.wp P a w K Q:=by
    intro hk g;refine bO (s:=Builtin.append_ c.argTypes o.type (c.args.map a.eval)) ?_ ?_ M
    .unfold execOp;simp only[L,resolve,j,invoke,builtin];rfl
    .rw[eI p,eI S,show Array.map a.eval [os,m].toArray=#[a.eval os,a.eval m] from by simp];exact Gc V h O hk g
   split at l
   .rename_i hu;exact key (.inr (V.T _ _ hu).str) l
   .rename_i e hu;obtain⟨Y1,f1,_⟩:=(V.T _ _ hu).slice;exact key (.inl ⟨Y1,f1⟩) l
   .exact absurd l (by intro k;cases k)
  .rename_i t x tt tx A S;obtain⟨ot,m,p,rfl,rfl⟩:=JT A;have key:(xg cx o.dst tt (cp σ ot) (cp σ m) σ).run=some aV->o.wp P a w K Q:=by
    intro g;refine bO (s:=Builtin.copy_ c.argTypes o.type (c.args.map a.eval)) ?_ ?_ M
    .unfold execOp;simp only[L,resolve,j,invoke,builtin];rfl
    .rw[eI p,eI S,show Array.map a.eval [ot,m].toArray=#[a.eval ot,a.eval m] from by simp];exact K2 V h O g
   split at l
   .exact key l
   .exact key l
   .exact absurd l (by intro k;cases k)
  .rename_i t tt A S;obtain⟨ot,p,rfl⟩:=QI A;split at l
   .rename_i aje;refine bO (s:=Builtin.clear_ c.argTypes o.type (c.args.map a.eval)) ?_ ?_ M
    .unfold execOp;simp only[L,resolve,j,invoke,builtin];rfl
    .rw[eI p,eI S,show Array.map a.eval [ot].toArray=#[a.eval ot] from by simp,aje];exact IM V h l
   .exact absurd l (by intro k;cases k)
  .rename_i x y A;obtain⟨m,Y,p,rfl,rfl⟩:=JT A;obtain⟨v,hb,g⟩:=bind_some l;obtain rfl:=aE g;obtain⟨z,z1,z2⟩:=Ez (P:=P) (h.cp m) (h.cp Y) hb;refine bO (s:=Builtin.min_ c.argTypes o.type (c.args.map a.eval)) ?_ (bD h O (x:=z) ?_ z2) M
   .unfold execOp;simp only[L,resolve,j,invoke,builtin];rfl
   .rw[eI p,show Array.map a.eval [m,Y].toArray=#[a.eval m,a.eval Y] from by simp];simp only[mh] at z1;simp[Builtin.min_,z1]
  .rename_i x y A;obtain⟨m,Y,p,rfl,rfl⟩:=JT A;obtain⟨v,hb,g⟩:=bind_some l;obtain rfl:=aE g;obtain⟨z,z1,z2⟩:=Ez (P:=P) (h.cp m) (h.cp Y) hb;refine bO (s:=Builtin.max_ c.argTypes o.type (c.args.map a.eval)) ?_ (bD h O (x:=z) ?_ z2) M
   .unfold execOp;simp only[L,resolve,j,invoke,builtin];rfl
   .rw[eI p,show Array.map a.eval [m,Y].toArray=#[a.eval m,a.eval Y] from by simp];simp only[Kn,sR] at z1;simp[Builtin.max_,z1]
  .exact absurd l (by intro k;cases k)
 .rename_i f j;split at l
  .rename_i Z E hf;obtain⟨ahx,g⟩:=aw l;have hv:=h.cp f;rw[hf] at hv;obtain⟨F,v1,v2,v3⟩:=hv;obtain v1:=ub v1;have J:kV γ σ.mem w (E.map λb=>.ptr b.1 b.2 []) F.toList:=by
    refine⟨by simpa using v2,λi v x h1 h2=>?_⟩;rw[Kj] at h1;cases hi:E[i]? with
    | none=>rw[hi] at h1;cases h1
    | some bv =>
      rw[hi] at h1;obtain rfl:=aE h1;have hl:=va.1 ahx bv (iy hi);obtain⟨bx,hb,D⟩:=jT hl;have hof:=v3 i bv.1 bv.2 (by rw[hi]);obtain⟨X,cap,g1,g2⟩:=ba hb D hof;have A:x=.pointer (some ⟨X,0,none⟩):=by
       have:F[i]?=some x:=by simpa using h2
       rw[g2] at this;exact(aE this).symm
      subst A;exact⟨⟨_,rfl,rfl⟩,bx,hb,zR D.symm,λ_=>⟨X,cap,g1,rfl⟩⟩
   unfold SS abC at g;unfold xe at v1;cases hq:Nat.blt Z 10000000 with
   | true =>
     rw[hq] at g v1;have C:kV γ σ.mem w (c.args.toList.map (cp σ)++E.map λb=>.ptr b.1 b.2 []) (c.args.map a.eval++F).toList:=by
      rw[O2,O6];exact(Gj h).append J
     refine C7 (f:=Z) (xs:=c.args.map a.eval++F) ?_ (Cf H R h O C g M);unfold execOp;simp only[L,resolve,j,Deferred.ofValue,v1,eG,Sem.run_bind,Sem.run_pure,Result.andThen_ok,invoke];simp
   | false =>
     rw[hq] at g v1;have C:kV γ σ.mem w ((E.map λb=>.ptr b.1 b.2 [])++c.args.toList.map (cp σ)) (F++c.args.map a.eval).toList:=by
      rw[O2,O6];exact J.append (Gj h)
     refine C7 (f:=Z % 10000000) (xs:=F++c.args.map a.eval) ?_ (Cf H R h O C g M);unfold execOp;simp only[L,resolve,j,Deferred.ofValue,v1,iD,Sem.run_bind,Sem.run_pure,Result.andThen_ok,invoke];simp
  .exact absurd l (by intro k;cases k)
 ·
  rename_i r U j;unfold qz at l;split at l
  .rename_i cn hcn;split at l
   .rename_i x bA A;obtain⟨y,hy,g⟩:=bX l;obtain rfl:=aE g;have C:kV γ σ.mem w (cp σ r::c.args.toList.map (cp σ)) (a.eval r::(c.args.map a.eval).toList):=by
     rw[O6];exact Gj (ops:=r::c.args.toList) h
    obtain⟨γ1,s1,s2,s3⟩:=qY h C A;obtain⟨f,u,e1,e2,e3⟩:=H.inv U cn hcn γ1.I w (a.eval r) _ x y (λb o hi=>s1.ok.sV b o hi) s1.ok.Qs s3 hy;refine C7 (f:=f) (xs:=(u::(c.args.map a.eval).toList).toArray) ?_ ⟨e2,e3.mono λe w' hw=>?_⟩
    .rw[<-e1];unfold execOp;simp only[L,resolve,j,Sem.run_bind,Sem.run_pure,Result.andThen_ok,invoke];exact congrArg (λz:Sem Next=>z.run P w) (Zk (λv=>callMethod v U) (a.eval r)<|Array.map a.eval c.args)
    .obtain⟨v,I',h1,h2,h3,h4,h5,h6⟩:=hw;refine⟨v,h1,?_⟩;obtain⟨m1,m2⟩:=s1.ok.far (I':=I') h2 h3 h4 h5;refine M ⟨I',γ1.loc⟩ _ w' (s1.aS m2 m1 O<|h6.rep λ_ _ hi=>hi) ?_;cases o.dst<;>exact s2.trans m2
   .exact absurd l (by intro k;cases k)
  .exact absurd l (by intro k;cases k)
theorem Tg{I:Nat->Nat->Prop}{c:TypeId}{u:Nat}:∀{t:Ty} {a:Ty} {f:a.den->t.den},Den P t c->SW t u=some ⟨a,f⟩ ->
  P.concrete u=true/\∀(y:a.den) (cs:List Value),bB w I a y cs->bB w I t (f y) [.iface u<|bW a cs]:=by
 intro t;induction t with
 | alt n a r m e =>
   intro b f i h;unfold SW at h;obtain⟨l,o⟩:=i.rest;cases j:Nat.beq n u with
   | true =>
     rw[j] at h;obtain rfl:=eT j;cases h;exact⟨o,λy cs k=>⟨l.abO i,cs,rfl,k⟩⟩
   | false =>
     rw[j] at h;simp only[iD] at h;split at h
     .rename_i v g p;cases h;obtain⟨q,s⟩:=e l p;exact⟨q,λy cs k=>s y cs k⟩
     .cases h
 | _=>intro b f i h;cases h
theorem ael{c:TypeId}{u:Nat}{t:Ty}{a:Ty}{f:a.den->t.den}(e:Den P t c)(h:SW t u=some ⟨a,f⟩):t.isAgg=false:=by
 cases t with
 | alt n b r=>simp only[Den,ew,dF] at e;exact(Ty.KF e.2).2
 | _=>cases h
theorem IP(n:eS P cx){o u:TypeId}{x:Operand}(h:cQ B N γ σ a w)(p:∀k,d=some k->k<N)(c:(qy cx d o u (cp σ x) σ).run=some aV) :
  mb P B N γ σ a w d (Instr.makeInterface u<|a.eval x) aV:=by
 unfold qy at c;split at c
 .rename_i t q;have e:=n.T _ _ q;split at c
  .rename_i b f l;split at c
   .rename_i y bA r;obtain rfl:=aE c;obtain⟨g,s,v,m,z,A⟩:=mr h (h.cp x) r;obtain⟨C,D⟩:=Tg (w:=w) (I:=g.I) e l;have i:a.eval x=bW b m:=by simpa using A
    have j:=ael e l;refine⟨.iface u<|a.eval x,w,g,run_makeInterface w u _ C,s.uo p ⟨_,D y m z,?_⟩,?_⟩
    .rw[i];unfold bW;rw[j];rfl
    .cases d<;>exact v
   .exact absurd c (by intro k;cases k)
  .exact absurd c (by intro k;cases k)
 .exact absurd c (by intro k;cases k)
theorem HS{o:Oper}{s:Sem ai}{K:Act->World->Prop}{Q:Exit->Act->World->Prop}(c:execOp a.eval o=(do s;pure .skip))(b:o.dst=none)
  (h:∃w' bG,s.run P w=.ok () w'/\cQ B N bG aV a w'/\Ext B γ σ.mem w bG aV.mem w') (e:Cd B N γ σ a w o.dst aV K):o.wp P a w K Q:=by
 obtain⟨w',bG,f,g,i⟩:=h;unfold Oper.wp;rw[c];simp only[Sem.run_bind,f,Result.andThen_ok,Sem.run_pure,Oper.upon_skip];exact e bG _ w' (by rw[b];exact g) i
theorem vt{d:Option Nat}{k:Nat}(h:ownRow bf d=some k):d=some k:=by
 unfold ownRow at h;split at h
 .rename_i d;cases b:cK bf (4000000+d) with
  | false=>rw[b] at h;cases h
  | true=>rw[b] at h;obtain rfl:=aE h;rfl
 .cases h
theorem C8{d:Option Nat}{k:Nat}(h:SV bf d=some k):d=some k/\cK bf k=true:=by
 unfold SV at h;split at h
 .rename_i d;cases b:cK bf d with
  | false=>rw[b] at h;cases h
  | true=>rw[b] at h;obtain rfl:=aE h;exact⟨rfl,b⟩
 .cases h
theorem K3(A:eS P cx)(T:oT P B.G cx)(U:vq P B.G inl){o:Oper}(h:cQ B N γ σ a w)(m:∀k,o.dst=some k->k<N)
  (g:(pw cx nb bf inl o σ).run=some aV) {K:Act->World->Prop} {Q:Exit->Act->World->Prop} (C:Cd B N γ σ a w o.dst aV K):o.wp P a w K Q:=by
 unfold pw at g;split at g
 case h_1 x j=>exact bO (s:=pure (a.eval x)) (by simp only[execOp,j];rfl) (xp A h m g) C
 case h_2 x j=>exact bO (s:=pure (a.eval x)) (by simp only[execOp,j];rfl) (xp A h m g) C
 case h_3 c x y j=>exact bO (s:=do pure (if <-asBool (a.eval c) then a.eval x else a.eval y)) (by simp only[execOp,j];simp[bind_assoc]) (KM h m g) C
 case h_4 elem j =>
  split at g
  .rename_i k t D H;rw[D] at m;refine bO (s:=Instr.alloc elem true (.tuple #[])) (by simp only[execOp,j]) ?_ C;rw[D];exact IF A h (m k rfl) H g
  .rename_i k D H;rw[D] at m;refine bO (s:=Instr.alloc elem true (.tuple #[])) (by simp only[execOp,j]) ?_ C;rw[D];split at g
   .rename_i fs hO;exact IE A h (m k rfl) hO g
   .obtain⟨h1,r⟩:=aw g;exact ID A h (m k rfl) h1 r
  .exact absurd g (by intro k;cases k)
 case h_5 elem x j =>
  unfold D8 at g;split at g
  .exact absurd g (by intro k;cases k)
  .exact absurd g (by intro k;cases k)
  .rename_i k D h1 h2;rw[D] at m;refine bO (s:=Instr.box elem (a.eval x)) (by simp only[execOp,j]) ?_ C;rw[D];split at g
   .exact Nr h (m k rfl) h1 h2 g
   .exact Zg h (m k rfl) h1 h2 g
  .exact absurd g (by intro k;cases k)
 case h_6 t parts j =>
  refine bO (s:=Instr.build t (parts.map λ(i,x)=>(i,a.eval x))) (by simp only[execOp,j]) ?_ C;split at g
  .rename_i u v H;split at g
   .rename_i d0 k hz;obtain⟨D,V⟩:=z7 hz;have V:parts=#[]:=by simpa using V
    rw[D,V];rw[D] at m;rw[Array.map_empty];exact KU A h (m d0 rfl) H g
   split at g
   .rename_i x bA F;obtain rfl:=aE g;exact C2 A h m H F
   .exact absurd g (by intro k;cases k)
  .rename_i n e H;split at g
   .rename_i l bA F;obtain rfl:=aE g;exact Et A h m H F
   .exact absurd g (by intro k;cases k)
  .split at g
   .rename_i fs hO;split at g
    .rename_i z0 W;split at g
     .rename_i p q F;obtain rfl:=aE g;exact II A h m hO W F
     .rename_i u F;obtain rfl:=aE g;exact F8 A h m hO W F
     .exact absurd g (by intro k;cases k)
    .exact absurd g (by intro k;cases k)
   .exact absurd g (by intro k;cases k)
  .exact absurd g (by intro k;cases k)
 case h_7 t n parts j =>
  refine bO (s:=Instr.buildSlice t n (parts.map λ(i,x)=>(i,a.eval x))) (by simp only[execOp,j]) ?_ C;split at g
  .rename_i e H;split at g
   .rename_i k X L;obtain⟨D,_⟩:=C8 X;have V:parts=#[]:=by simpa using L
    rw[D,V];rw[D] at m;rw[Array.map_empty];exact Ga A h (m k rfl) H g
   .obtain⟨hn,r⟩:=aw g;split at r
    .rename_i l bA F;split at r
     .rename_i k D;have hk':=vt D;rw[hk'] at m⊢;exact KV A h (m k rfl) H hn F r
     .obtain rfl:=aE r;exact F9 A h m H hn F
    .exact absurd r (by intro k;cases k)
  .exact Nu A h m g
  .exact absurd g (by intro k;cases k)
 case h_8 t x j=>exact bO (s:=Instr.loadAt t (a.eval x)) (by simp only[execOp,j]) (KP A h m g) C
 case h_9 t x y j =>
  split at g
  .rename_i D;cases hq:cK bf 8000001&&ya y with
   | true =>
     rw[hq] at g;exact HS (s:=Instr.storeAt t (a.eval x) (a.eval y)) (by simp only[execOp,j]) D (Np A (aa8.1 hq).2 h g) C
   | false =>
     rw[hq] at g;exact HS (s:=Instr.storeAt t (a.eval x) (a.eval y)) (by simp only[execOp,j]) D (IC A h g) C
  .exact absurd g (by intro k;cases k)
 case h_10 x j =>
  have hv:=h.cp x;have fin:∀{v:aK} {y:Value},a.eval x=y->execOp a.eval o=(do pure<|.value (<-(pure y:Sem Value)))->b5 γ σ.mem w v .val [y]->aV=σ.aS o.dst v->o.wp P a w K Q:=by
   intro v y he hs hr0 hσ;subst hσ;exact bO (s:=pure y) hs (bD h m rfl hr0) C
  split at g
  .rename_i b aI p J;rw[J] at hv;obtain⟨hl,r⟩:=aw g;obtain⟨bx,F,Y⟩:=jT hl;obtain⟨blk,cap,I,O⟩:=ba F Y hv.2;have O:=ub O;rw[O] at hv;exact fin O (by simp only[execOp,j,O];rfl) hv (aE r).symm
  .rename_i t y J;rw[J] at hv;obtain⟨blk,off,cs,I,O,g3⟩:=id hv;have I:=ub I;rw[I] at hv;exact fin I (by simp only[execOp,j,I];rfl) hv (aE g).symm
  .rename_i f c J;rw[J] at hv;obtain⟨arr,I,O,g3⟩:=id hv;have I:=ub I;rw[I] at hv;exact fin I (by simp only[execOp,j,I,xe];cases Nat.blt f 10000000<;>rfl) hv (aE g).symm
  .exact absurd g (by intro k;cases k)
 case h_11 op xt x y pos j =>
  obtain⟨v,F,r⟩:=bind_some g;obtain rfl:=aE r;obtain⟨z,Z,z2⟩:=VF (P:=P) (x:=x) (y:=y) A (h.cp x) (h.cp y) F;refine bO (s:=gr op xt x y (a.eval x) (a.eval y)) (by simp only[execOp,j,gr]) (bD h m Z z2) C
 case h_12 op ty x j =>
  obtain⟨v,F,r⟩:=bind_some g;obtain rfl:=aE r;obtain⟨z,Z,z2⟩:=abS (P:=P) (h.cp x) F;exact bO (s:=Op.unary op (a.eval x)) (by simp only[execOp,j]) (bD h m Z z2) C
 case h_13 src dst x j=>exact bO (s:=convert src dst (a.eval x)) (by simp only[execOp,j]) (Ev A h m g) C
 case h_14 f first M j =>
  split at g
  .rename_i cs E R;obtain⟨S,g⟩:=aw g;obtain rfl:=aE g;refine bO (s:=Instr.makeFunc (.func f) #[] (M.map a.eval)) ?_ (KR h m R S) C;have:first=#[]:=by simpa using E
   simp only[execOp,j,this,show Array.map a.eval #[]=#[] from by simp]
  .rename_i x E R;have e1:first=#[x]:=eI E
   have e2:M=#[]:=by
    have:=(KQ h R).1;exact Array.eq_empty_of_size_eq_zero (by simpa using this.symm)
   split at g
   .rename_i cs J;obtain⟨S,g⟩:=aw g;obtain rfl:=aE g;refine bO (s:=Instr.makeFunc (.func f) #[a.eval x] #[]) ?_ (IG h m J S) C;simp only[execOp,j,e1,e2,show Array.map a.eval #[]=#[] from by simp,show Array.map a.eval #[x]=#[a.eval x] from by simp]
   .exact absurd g (by intro k;cases k)
  .exact absurd g (by intro k;cases k)
 case h_15 t x lo hi j=>exact bO (s:=Instr.sliceAt t (a.eval x) (lo.map a.eval) (hi.map a.eval) none) (by simp only[execOp,j];rfl) (IB A h m g) C
 case h_16 s x k j=>exact bO (s:=Instr.fieldAt s (a.eval x) k) (by simp only[execOp,j]) (BN A h m g) C
 case h_17 xt x k j =>
  have hv:=h.cp x;split at g
  .rename_i u y J;rw[J] at hv;obtain⟨H,r⟩:=aw g;split at r
   .rename_i off v hf;obtain rfl:=aE r;obtain⟨z,Z,z2⟩:=S5 (P:=P) A (iH H) hv hf;exact bO (s:=Instr.field xt (a.eval x) k) (by simp only[execOp,j]) (bD h m Z z2) C
   .exact absurd r (by intro k;cases k)
  .exact absurd g (by intro k;cases k)
 case h_18 t x i j =>
  split at g
  .rename_i ki n hi;have hv:=h.cp i;rw[hi] at hv;obtain⟨ei,_⟩:=sy hv;refine bO (s:=Instr.indexAt t (a.eval x) (a.eval i)) (by simp only[execOp,j]) ?_ C;rw[ei];cases hm:cK bf 5000000 with
   | true=>rw[hm] at g;exact Iz A h m g
   | false=>rw[hm] at g;exact sW A h m g
  .exact absurd g (by intro k;cases k)
 case h_19 t x i j =>
  split at g
  .rename_i ki n hi;have hv:=h.cp i;rw[hi] at hv;obtain⟨ei,_⟩:=sy hv;refine bO (s:=Instr.index t (a.eval x) (a.eval i)) (by simp only[execOp,j]) ?_ C;rw[ei];exact IA A h m g
  .exact absurd g (by intro k;cases k)
 case h_20 t l c j =>
  split at g
  .rename_i k e kl ln kc cn D H hl hcc;rw[D] at m;obtain⟨QF,r⟩:=ck g;obtain⟨hf,hr3⟩:=ck r;refine bO (s:=Instr.makeSlice t (a.eval l) (a.eval c)) (by simp only[execOp,j]) ?_ C;rw[D];exact IJ A h (m k rfl) H hl hcc QF hf hr3
  .exact absurd g (by intro k;cases k)
 case h_21 t k j =>
  split at g
  .rename_i vs J;split at g
   .rename_i v hn;obtain rfl:=aE g;exact bO (s:=Instr.extract (a.eval t) k) (by simp only[execOp,j]) (Nt h m J hn) C
   .exact absurd g (by intro k;cases k)
  .exact absurd g (by intro k;cases k)
 case h_22 c j=>exact VR A T U j h m g C
 case h_23 u x j=>exact bO (s:=Instr.makeInterface u (a.eval x)) (by simp only[execOp,j]) (IP A h m g) C
 case h_24=>exact absurd g (by intro k;cases k)
end
end Go.Ge
