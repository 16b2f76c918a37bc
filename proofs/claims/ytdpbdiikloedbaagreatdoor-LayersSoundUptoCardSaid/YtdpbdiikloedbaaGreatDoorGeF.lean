/- A ghost interpreter of the model's code, and that it tells the truth: part 6. It says of a function of plain data what a call of it comes to. -/
import Derived.Test.YtdpbdiikloedbaaGreatDoorGeE
import Derived.Laws.Build
set_option linter.unusedSectionVars false
open Go.IntKind (i64)
namespace Go.Ge
open RowKit
def vz(P:Program)(G:fm)(inl:Nat->List aO->St->Tree (aO×St)):Prop :=
 ∀(B:qK) (γ:Gh) (σ bb:St) (w:World) (f:Nat) (b:List aO) (h:Array Value) (v:aO),B.G=G->bB B γ σ.mem w->lV γ σ.mem w b h.toList->(inl f b σ).run=some (v,bb) ->
  (∃fn c,P.funcs[f]?=some fn/\(fn.name == "runtime.NumGoroutine")=false/\fn.body=some c)/\bb.slots=σ.slots /\
  Calls P f h w λe w'=>∃g bQ,e=.returned g/\bB B bQ bb.mem w'/\Ext B γ σ.mem w bQ bb.mem w'/\cl bQ bb.mem w' v .val [g]
section
variable {P:Program} {B:qK} {N:Nat} {γ:Gh} {σ bb:St} {a:Act} {w w':World} {d:Option Nat} {cx:Ctx} {nb:Nat} {bf:List Nat} {inl:Nat->List aO->St->Tree (aO×St)}
def BC(B:qK)(N:Nat)(c:Gh)(e:St)(a:Act)(w:World)(d:Option Nat)(b:St)(K:Act->World->Prop):Prop :=
 ∀bQ v w',cW B N bQ b (a.put d v) w'->Ext B c e.mem w bQ b.mem w'->K (a.put d v) w'
theorem ON{f:Nat}{e:Func}{c:Code}(h:P.funcs[f]?=some e)(i:(e.name == "runtime.NumGoroutine")=false)(j:e.body=some c)(b:Array Value)(w:World) :
  (callFunc f b).run P w=.ok (.enter f b) w:=by
 have g:¬e.name = "runtime.NumGoroutine":=by simpa using i
 simp[callFunc,h,g,j]
theorem bU{o:Oper}{s:Sem Value}{K:Act->World->Prop}{Q:Exit->Act->World->Prop}(b:execOp a.eval o=(do pure<|.value (<-s)))(h:nZ P B N γ σ a w o.dst s bb)(c:BC B N γ σ a w o.dst bb K):o.wp P a w K Q:=by
 obtain⟨v,w',bQ,e,f,g⟩:=h;unfold Oper.wp;rw[b];simp only[Sem.run_bind,e,Result.andThen_ok,Sem.run_pure];exact c bQ _ w' f g
theorem Nf{ops:List Operand}(h:cW B N γ σ a w):lV γ σ.mem w (ops.map<|cD σ) (ops.map a.eval):=by
 refine⟨by simp,λi v x b c=>?_⟩;rw[wP] at b c;cases e:ops[i]? with
 | none=>rw[e] at b;cases b
 | some o =>
   rw[e] at b c;obtain rfl:=aI b;obtain rfl:=aI c;exact h.cD o
theorem lV.append{b:Nat->Option bF}{g j:List aO}{xs l:List Value}(h:lV γ b w g xs)(k:lV γ b w j l):lV γ b w (g++j) (xs++l):=by
 refine⟨by simp[h.1,k.1],λi v x e c=>?_⟩;rw[On] at e c;rw[h.1] at c;split at e
 .rename_i f;rw[aQ f] at c;exact h.2 i v x e c
 .rename_i f;rw[aM f] at c;exact k.2 _ v x e c
theorem bB.drop{g:Nat->Option bF}{w':World}(h:bB B γ g w){b:Nat}{j bx:bF}(y:g b=some j)(m:j.aP<bx.aP)(p:uD B w w')
  (n:∀k,k<w.heap.size->(∀c,γ.loc b≠some (k,c))->w'.heap[k]?=w.heap[k]?) (l:∀k o,k<w.heap.size->w'.cell? ⟨k,o,none⟩=w.cell? ⟨k,o,none⟩)
  (r:cE (bK γ b none) (cH g b bx) w' b bx):bB B (bK γ b none) (cH g b bx) w'/\Ext B γ g w (bK γ b none) (cH g b bx) w':=by
 have hx:Ext B γ g w (bK γ b none) (cH g b bx) w' :=
  { below:=p
    I:=λ_ _ x=>x
    pZ:=λ_ _ x=>.inl x
    cells:=λblk o x=>l blk o (h.tu blk o x)
    boxes:=λc cx f=>by
     by_cases e:c=b
     .subst e;obtain rfl:j=cx:=aI (y.symm.trans f);exact⟨bx,bw _ _,ZW m,λe=>absurd e (by omega)⟩
     .exact⟨cx,by rw[aV _ e];exact f,cg _,λ_=>⟨by simp[bK,e],rfl,rfl⟩⟩ }
 refine⟨?_,hx⟩;exact
  { cU:=h.C5 hx
    base:=gj h.base p.size
    boxes:=λc cx f=>by
     by_cases e:c=b
     .subst e;rw[bw] at f;obtain rfl:=aI f;exact r
     .rw[aV _ e] at f;refine(h.boxes c cx f).keep hx (by simp[bK,e]) λblk k z=>n blk (h.fresh c blk k (by rw[f];simp) z).2 λs t=>e ?_;exact h.inj c b blk k s (by rw[f];simp) (by rw[y];simp) z t
    inj:=λc d blk k s f A i q=>by
     by_cases e:c=b
     .simp only[bK,aQ e] at i;cases i
     .by_cases u:d=b
      .simp only[bK,aQ u] at q;cases q
      .simp only[bK,aM e] at i;simp only[bK,aM u] at q;rw[aV _ e] at f;rw[aV _ u] at A;exact h.inj c d blk k s f A i q
    fresh:=λc blk k f i=>by
     by_cases e:c=b
     .simp only[bK,aQ e] at i;cases i
     .simp only[bK,aM e] at i;rw[aV _ e] at f;have:=h.fresh c blk k f i;exact⟨this.1,B6 this.2 p.size⟩
    tu:=λblk off v=>B6 (h.tu blk off v) p.size
    sep:=λc cx blk k off f i v=>by
     by_cases e:c=b
     .simp only[bK,aQ e] at i;cases i
     .simp only[bK,aM e] at i;rw[aV _ e] at f;exact h.sep c cx blk k off f i v }
theorem Rp{c:Nat->Option bF}{b:Nat}{f:bF}(h:c b=some f):cH c b f=c:=by
 funext i;by_cases e:i=b
 .subst e;rw[bw,h]
 .rw[aV _ e]
theorem Ly{f:Nat}{s:Xk}{Y:List aO}{xs:Array Value}(hs:gk P f s)(h:cW B N γ σ a w)(hd:∀k,d=some k->k<N)(hv:lV γ σ.mem w Y xs.toList)
  (G:(Ay s d Y σ).run=some bb) {K:Act->World->Prop} (hK:BC B N γ σ a w d bb K) :
  (∃fn code,P.funcs[f]?=some fn/\(fn.name == "runtime.NumGoroutine")=false/\fn.body=some code)/\Calls P f xs w λe w'=>∃v,e=.returned v/\K (a.put d v) w':=by
 unfold Ay at G;split at G
 .rename_i T b aP;split at G
  case h_2=>cases G
  rename_i bx Z;split at G
  case h_2=>cases G
  rename_i b' v' u un D;obtain⟨n,I⟩:=aC G;obtain rfl:=aI I;simp only[dv,jL] at n;obtain⟨⟨⟨⟨⟨⟨⟨⟨c1,c2⟩,c3⟩,c4⟩,U⟩,c6⟩,c7⟩,c8⟩,c9⟩:=n;have c1:=eT c1;have U:=eT U;have c7:=eT c7;have c8:=eT c8;have c6:0<T:=by simpa using c6
  subst c7;subst c8;obtain⟨val,J,hxs,g1,g2⟩:=hv.cons;have r:J=[]:=by have:=g2.1;simpa using this
  subst r;obtain⟨i,m,hl,V⟩:=bk Z c1 g1.2;have V:=ur V;simp only[cG] at V;obtain rfl:xs=#[.pointer<|some ⟨i,0,none⟩]:=by apply B7.1;rw[hxs,V]
  have t:=h.ok.boxes b' bx Z;unfold cE at t;rw[c2] at t;obtain⟨acv,acw,z,tid,fr,a1,a2,a3,F,a5⟩:=t;rw[hl] at a1;obtain⟨rfl,rfl⟩:=br (aI a1);have L:tid=T:=by
   rcases F with F|F
   .rw[U] at F;exact absurd F (ZX c6)
   .rw[F,U]
  subst L;rw[D] at a5;obtain⟨cs1,cs2,e1,e2,e3⟩:=a5;obtain⟨cs3,cs4,e4,e5,e6⟩:=e3;obtain⟨⟨p,rfl,hp1⟩,hp2⟩:=e2;obtain⟨q,hq⟩:∃q,cs3=[q]:=by
   cases u<;>first|(cases c9;done)|skip
   obtain⟨⟨q,hq,_⟩,_⟩:=e5;exact⟨q,hq⟩
  subst hq;obtain rfl:cs4=[]:=e6;have M:z=#[p,q]:=by apply B7.1;rw[e1,e4];rfl
  subst M;obtain⟨ajV,ahz,j1,j2⟩:=bk Z c1 hp2;rw[hl] at j1;obtain⟨rfl,rfl⟩:=br (aI j1);have j2:p=.pointer none\/p=.pointer (some ⟨i,0,none⟩):=j2.imp ur ur;refine⟨hs.1,(hs.2 w i p q fr a2 (a3 0<|by simp) j2).mono λe w' H=>?_⟩;obtain⟨rfl,H⟩:=H;refine⟨_,rfl,?_⟩;have acF:∀{bQ:Gh} {dL:Nat->Option bF} {w':World},cl bQ dL w' (.yP .nl) .val [.tuple #[]]:=λ{_ _ _}=>⟨#[],rfl,rfl⟩;rcases H with rfl|rfl
  .refine hK γ _ _ (h.uE hd acF) ?_;cases d<;>exact Ext.refl _ _ _ _
  .have A:({ bx with val:=bx.val }:bF)=bx:=by cases bx;rfl
   obtain⟨m1,m2⟩:=h.ok.write Z c4 hl a2 (cur':=#[.pointer<|some ⟨i,0,none⟩,q]) (v:=bx.val) (by simp) (by rw[A])
    (λw' dL hx hg=>by
     rw[A];unfold cE;rw[c2];refine⟨i,m,_,tid,fr,hl,hg,λo ho=>a3 o (by simpa using ho),F,?_⟩;rw[D];refine⟨[.pointer<|some ⟨i,0,none⟩],[q],rfl,?_,[q],[],rfl,e5.ext hx,rfl⟩;have hp3:mx dL b' v' λ_=>∃i m,γ.loc b'=some (i,m):=by
      obtain⟨bx0,k1,k2,k3⟩:=hp2;obtain⟨su,q1,q2,C⟩:=hx.boxes b' bx0 k1;exact⟨su,q1,gj k2 q2,λ_=>⟨i,m,hl⟩⟩
     obtain⟨su,q1,q2,C⟩:=hp3;exact⟨⟨_,rfl,rfl⟩,su,q1,q2,λ_=>⟨i,m,hl,.inr rfl⟩⟩)
   rw[A,Rp Z] at m1 m2;refine hK γ _ _ (h.ba m2 m1 hd acF) ?_;cases d<;>exact m2
 .rename_i T E b aP;split at G
  case h_2=>cases G
  rename_i bx Z;split at G
  case h_2=>cases G
  rename_i b' v' hh hv' un D;obtain⟨n,I⟩:=aC G;simp only[dv,jL] at n;obtain⟨⟨⟨⟨c1,c2⟩,U⟩,c6⟩,c7⟩:=n;have c1:=eT c1;have U:=eT U;have c6:0<T:=by simpa using c6
  split at I
  case h_2=>cases I
  rename_i hx W;obtain⟨n,hr3⟩:=aC I;simp only[dv,jL] at n;obtain⟨⟨⟨⟨d1,d2⟩,d3⟩,d4⟩,d5⟩:=n;have d1:=eT d1;have d4:=eT d4;have d5:0<E:=by simpa using d5
  split at hr3
  case h_2=>cases hr3
  rename_i l hhv;change List Int at l;obtain rfl:=aI hr3;obtain⟨val,J,hxs,g1,g2⟩:=hv.cons;have r:J=[]:=by have:=g2.1;simpa using this
  subst r;obtain⟨i,m,hl,V⟩:=bk Z c1 g1.2;have V:=ur V;simp only[cG] at V;obtain rfl:xs=#[.pointer<|some ⟨i,0,none⟩]:=by apply B7.1;rw[hxs,V]
  have t:=h.ok.boxes b bx Z;unfold cE at t;rw[c2] at t;obtain⟨acv,acw,z,tid,fr,a1,a2,a3,F,a5⟩:=t;rw[hl] at a1;obtain⟨rfl,rfl⟩:=br (aI a1);have L:tid=T:=by
   rcases F with F|F
   .rw[U] at F;exact absurd F (ZX c6)
   .rw[F,U]
  subst L;rw[D] at a5;obtain⟨cs1,cs2,e1,e2,e3⟩:=a5;obtain⟨cs3,cs4,e4,e5,e6⟩:=e3;obtain⟨⟨p,rfl,hp1⟩,hp2⟩:=e2;obtain⟨⟨q,rfl,hq1⟩,hq2⟩:=e5;obtain rfl:cs4=[]:=e6;have M:z=#[p,q]:=by apply B7.1;rw[e1,e4];rfl
  subst M;obtain⟨e',n',k1,k2,k3⟩:=bk W d1 hq2;rw[bF.dk d2 hhv] at k2;obtain⟨rfl,rfl⟩:=br (aI k2);have O:=h.ok.boxes hh hx W;unfold cE at O;rw[d2] at O;obtain⟨e3,l3,q1,q2,C⟩:=O;rw[hhv] at q1;cases q1;have hlen:(bh l).length=l.length:=by simp[bh]
  let X:bF:={ hx with val:=.data (.slice<|.int .u8) ([]:List Int),aP:=hx.aP+1 }
  have key:∃og:Option Nat,(∀k,og=some k->∃c,γ.loc hh=some (k,c))/\l.length<=maxLen /\
    ((og=none/\q=.slice none 0 0/\bh l=[])\/∃(g m:Nat) (z:Array Value) (fr':Nat×Nat),og=some g/\q=.slice (some ⟨g,0,none⟩) (bh l).length m/\w.heap[g]?=some (.cells z E fr')/\(bh l).length<=m/\m<=maxLen/\z.size=m/\∀(j:Nat) (x:UInt8),(bh l)[j]?=some x->z[j]?=some (Value.int .u8 x.toNat)):=by
   rcases k3 with ⟨k3,k4⟩|⟨g,Q,k3,k4⟩
   .rcases C with ⟨_,C⟩|⟨_,_,_,_,_,C,_⟩
    .subst C;exact⟨none,(λk S=>by cases S),nY _,.inl ⟨rfl,ur k4,rfl⟩⟩
    .rw[k3] at C;cases C
   .rcases C with ⟨C,_⟩|⟨g',ai2,R,ahB,frg,C,q4,q5,q6,q7,q8,q9,q10⟩
    .rw[k3] at C;cases C
    .rw[k3] at C;obtain⟨rfl,rfl⟩:=br (aI C);have htg:ahB=E:=by
      rcases q6 with q6|q6
      .rw[d4] at q6;exact absurd q6 (ZX d5)
      .rw[q6,d4]
     subst htg;have afK:(Ty.int IntKind.u8).size=1:=rfl;have q7':l.length<=Q:=q7;refine⟨some g,λk S=>⟨Q,by rw[k3,aI S]⟩,gj q7' q8,.inr ⟨g,Q,R,frg,rfl,?_,q4,by omega,q8,by rw[q9,afK,Bu],λj x hj=>?_⟩⟩
     .rw[hlen];exact ur k4
     .simp only[bh,wP,qY] at hj;obtain⟨y,hy,rfl⟩:=hj;obtain⟨r1,r2,r3⟩:=q10 j y hy;rw[afK,Bu] at r1;have afL:(IntKind.u8).min=0:=by decide
      have aal:(IntKind.u8).max=255:=by decide
      have r2':0<=y:=by have:=r2;rw[afL] at this;exact this
      have r3':y<=255:=by have:=r3;rw[aal] at this;exact this
      have afM:R.toList[j]?=some (.int .u8 y):=by
       have:((R.toList.drop j).take 1)[0]?=some (.int .u8 y):=by rw[r1];rfl
       simpa [fi,mn] using this
      have hy2:((UInt8.ofNat y.toNat).toNat:Int)=y:=by
       rw[UInt8.toNat_ofNat'];have:y.toNat<256:=by omega
       rw[Nat.mod_eq_of_lt<|by simpa using this];omega
      rw[hy2];simpa using afM
  obtain⟨og,hog,hlm,S⟩:=key;refine⟨hs.1,(hs.2 w i p q fr (bh l) og a2 S).mono λe w' H=>?_⟩;obtain⟨rfl,H⟩:=H;refine⟨_,rfl,?_⟩;have ahC:uD B w w':=⟨H.os,H.tape,H.output,H.size,λk S=>by
   rcases sY k w.heap.size with hlt|hge
   .refine H.block k hlt λe=>S ?_;obtain⟨c,hc⟩:=hog k e;exact(h.ok.fresh hh k c (by rw[W];simp) hc).1
   .exact absurd (.inl<|gj h.ok.base hge) S⟩
  have ahD:cE (bK γ hh none) (cH σ.mem hh X) w' hh X:=by
   unfold cE;rw[show X.buf=true from d2];exact⟨.int .u8,[],rfl,q2,.inl ⟨by simp[bK],rfl⟩⟩
  obtain⟨m1,m2⟩:=h.ok.drop (bx:=X) W (QN _) ahC (λk S hn=>H.block k S λe=>by obtain⟨c,hc⟩:=hog k e;exact hn c hc) H.cell ahD;refine hK (bK γ hh none) _ w' (h.ba m2 m1 hd (v:=.data .str (bh l)) (val:=.string ⟨(bh l).toArray⟩) ?_) ?_
  .exact⟨[.string ⟨(bh l).toArray⟩],⟨rfl,by rw[hlen];exact hlm⟩,rfl⟩
  .cases d<;>exact m2
 .cases G
theorem OO(z:pA P B.G cx)(Z:vz P B.G inl){f:Nat}{q:List aO}{H:Array Value}(h:cW B N γ σ a w)(hd:∀k,d=some k->k<N)(hv:lV γ σ.mem w q H.toList)
  (i:(wk cx inl d f q σ).run=some bb) {K:Act->World->Prop} (W:BC B N γ σ a w d bb K) :
  (∃J A,P.funcs[f]?=some J/\(J.name == "runtime.NumGoroutine")=false/\J.body=some A)/\Calls P f H w λe w'=>∃v,e=.returned v/\K (a.put d v) w':=by
 unfold wk at i;split at i
 .rename_i c hcf;have X:=z.Zl f c hcf;refine⟨X.body,?_⟩;split at i
  .rename_i L;split at i
   .rename_i x hx;obtain⟨y,hy,l⟩:=b4 i;obtain rfl:=aI l;have O:=Lw (I':=λb o=>b<w.heap.size) h.ok (λb o m=>h.ok.tu b o m) (λb o _ C=>C) hv hx;refine(X.calls (λb o=>b<w.heap.size) w H x y (λb o C=>C) h.ok.Ox O hy).mono λe w' R=>?_;obtain⟨v,I',S,E,T,Y,h5,h6⟩:=R;refine⟨v,S,?_⟩;obtain⟨m1,F⟩:=h.ok.far (I':=γ.I) E (λ_ _ m=>m) (λb o m=>B6 (h.ok.tu b o m) E.size) (λb o m hn=>absurd m hn);refine W γ _ w' (h.ba F m1 hd<|h6.flat L) ?_;cases d<;>exact F
   .exact absurd i (by intro k;cases k)
  .split at i
   .rename_i x bG hx;obtain⟨y,hy,l⟩:=b4 i;obtain rfl:=aI l;obtain⟨γ1,s1,s2,s3⟩:=rO h hv hx;refine(X.calls γ1.I w H x y (λb o m=>s1.ok.tu b o m) s1.ok.Ox s3 hy).mono λe w' R=>?_;obtain⟨v,I',S,E,T,Y,h5,h6⟩:=R;refine⟨v,S,?_⟩;obtain⟨m1,F⟩:=s1.ok.far (I':=I') E T Y h5;refine W ⟨I',γ1.loc⟩ _ w' (s1.ba F m1 hd<|h6.rep λ_ _ m=>m) ?_;cases d<;>exact s2.trans F
   .exact absurd i (by intro k;cases k)
 .rename_i hcf;have j:((inl f q σ).bind λr=>.ret (r.2.ba d r.1):Tree St).run=some bb->(∃J A,P.funcs[f]?=some J/\(J.name == "runtime.NumGoroutine")=false/\J.body=some A)/\Calls P f H w λe w'=>∃v,e=.returned v/\K (a.put d v) w':=by
   intro i;obtain⟨r,hr1,l⟩:=bind_some i;obtain rfl:=aI l;obtain⟨v0,BD⟩:=r;obtain⟨C,hsl,D⟩:=Z B γ σ BD w f q H v0 rfl h.ok hv hr1;refine⟨C,D.mono λe w' R=>?_⟩;obtain⟨v,bQ,S,E,T,Y⟩:=R;refine⟨v,S,?_⟩;have hs0:BD={ slots:=σ.slots,mem:=BD.mem }:=by cases BD;simp only at hsl;subst hsl;rfl
   rw[hs0] at W;refine W bQ _ w' (h.ba T E hd Y) ?_;cases d<;>exact T
  split at i
  .rename_i s hcs;exact Ly (z.Lo f s hcs) h hd hv i W
  split at i
  .rename_i c hcr;split at i
   .rename_i x u N M hx;obtain⟨t,i⟩:=aC i;have t:=ES.1 t;obtain⟨y,hy,l⟩:=b4 i;obtain rfl:=aI l;have X:=z.TP f c hcr;obtain⟨V,lS,g1,g2,g3⟩:=Lx hv hx;obtain⟨bs,k1,k2,k3⟩:=Na h.ok g2 g3;have hlen:=ET g3;have hold:∀blk∈cQ bs (M.map λp=>γ.loc p.1),∃b k,(∃bx,σ.mem b=some bx)/\γ.loc b=some (blk,k):=λblk C=>Nc k1 k3 C;refine⟨X.body,(X.calls γ.I w H lS bs _ x u y (λb o m=>h.ok.tu b o m) h.ok.Ox (λb Q g C=>by
     obtain⟨n,k,⟨bx,j1⟩,j2⟩:=hold b C;exact(h.ok.cU b Q g).1 (h.ok.fresh n b k (by rw[j1];simp) j2).1) g1 k2 (Gf h.ok k1 k3 t) hy).mono λe w' R=>?_⟩
    obtain⟨v,I',ls',S,E,T,Y,h5,h6,h7,h8,h9⟩:=R;refine⟨v,S,?_⟩;obtain⟨m1,F⟩:=h.ok.refs g3 t k1 k3 E T Y h5 h7 h8 h9;have hs:kB c.U y.2 N M σ={ slots:=σ.slots,mem:=(kB c.U y.2 N M σ).mem }:=rfl;refine W ⟨I',gZ M ls' γ.loc⟩ _ w' (by rw[hs];exact h.ba F m1 hd (h6.rep λ_ _ m=>m)) ?_;cases d<;>exact F
   .exact j i
  .exact j i
theorem bB.T9{l:Nat->Option bF}{M:World}(h:bB B γ l w){b:Nat}{su:bF}{e:Ty}{l':List e.den}{L:Option (Nat×Nat)}{X:Nat->Prop}{W:Nat->Nat->Prop}{v:Value}
  (Y:∀k,X k->∃g c,l b=some g/\g.ro=false/\γ.loc b=some (k,c)) (t:kG w γ.I X M W) (G:vy M W e l' L v) (Q:∀f c,L=some (f,c)->X f\/w.heap.size<=f)
  (H:∀g,l b=some g->g.aP<su.aP\/(g.aP=su.aP/\L=γ.loc b/\su.buf=g.buf/\su.row=g.row)) (aaq:su.val=.data (.slice e) l') (R:su.buf=true) (S:su.tid=0) (he:0<e.size) :
  let bQ:Gh:=⟨W,λi=>if i=b then L else γ.loc i⟩
  bB B bQ (cH l b su) M/\Ext B γ l w bQ (cH l b su) M:=by
 intro bQ;have p:∀k,k<w.heap.size->¬X k->M.heap[k]?=w.heap[k]?:=λk A T=>t.below.block k λq=>by
  rcases q with q|q
  .have:w.heap.size<=k:=q;omega
  .exact T q
 have O:∀k,X k->∀o,¬γ.I k o:=λk A o z=>by
  obtain⟨g,c,m,s,Z⟩:=Y k A;have:=(h.sep b g k c o m Z z).1;rw[s] at this;cases this
 have U:∀k,¬B.has k->k<w.heap.size:=λk A=>QL λq=>A (.inl<|gj h.base q);have u:∀k,X k->B.has k/\k<w.heap.size:=λk A=>by
  obtain⟨g,c,m,s,Z⟩:=Y k A;exact h.fresh b k c (by rw[m];simp) Z
 have hx:Ext B γ l w bQ (cH l b su) M :=
  { below:=⟨t.below.os,t.below.tape,t.below.output,t.below.size,λk A=>p k (U k A) λT=>A (u k T).1⟩
    I:=t.held
    pZ:=λb o x=>by
     by_cases z:γ.I b o
     .exact .inl z
     .exact .inr (.inl<|gj h.base<|t.pZ b o x z)
    cells:=λb o z=>di (p b (h.tu b o z) λT=>O b T o z)
    boxes:=λc cx n=>by
     by_cases j:c=b
     .subst j;refine⟨su,bw _ _,?_,λC=>?_⟩
      .rcases H cx n with q|q
       .exact ZW q
       .exact Bt q.1
      .rcases H cx n with q|q
       .omega
       .exact⟨by simp[bQ,q.2.1],q.2.2⟩
     .exact⟨cx,by rw[aV _ j];exact n,cg _,λ_=>⟨by simp[bQ,j],rfl,rfl⟩⟩ }
 have J:∀f c,L=some (f,c)->f<M.heap.size/\∀o,¬W f o:=λf c D=>by
  rcases G with ⟨q,_⟩|⟨K,cap,cur,tid,fr,q1,q2,q3,q4,q5,q6,q7,q8,q9⟩
  .rw[q] at D;cases D
  .rw[q1] at D;obtain⟨rfl,rfl⟩:=br (aI D);exact⟨(vk.1 q3).1,q8⟩
 have y:∀{c d:Nat},c≠b->cH l b su c≠none->l c≠none:=λn hm=>by rwa [aV _ n] at hm
 have r:∀{d f k c:Nat},d≠b->l d≠none->L=some (f,k)->γ.loc d=some (f,c)->False:=λ{d f k c} hd hm D s=>by
  rcases Q f k D with E|E
  .obtain⟨g,c0,j1,j2,j3⟩:=Y f E;exact hd (h.inj d b f c c0 hm (by rw[j1];simp) s j3)
  .have:=(h.fresh d f c hm s).2;omega
 refine⟨?_,hx⟩;exact
  { cU:=h.C5 hx
    base:=gj h.base t.below.size
    boxes:=λc cx n=>by
     by_cases j:c=b
     .subst j;rw[bw] at n;obtain rfl:=aI n;unfold cE;rw[R];refine⟨e,l',aaq,he,?_⟩;rcases G with ⟨q1,q2,q3⟩|⟨K,cap,cur,tid,fr,q1,q2,q3,q4,q5,q6,q7,q8,q9⟩
      .exact .inl ⟨by simp[bQ,q1],q2⟩
      .exact .inr ⟨K,cap,cur,tid,fr,by simp[bQ,q1],q3,q4,.inl S,q5,q6,q7,q9⟩
     .rw[aV _ j] at n;refine(h.boxes c cx n).keep hx (by simp[bQ,j]) λf k D=>p f (h.fresh c f k (by rw[n];simp) D).2 λE=>?_;obtain⟨g,c0,j1,j2,j3⟩:=Y f E;exact j (h.inj c b f k c0 (by rw[n];simp) (by rw[j1];simp) D j3)
    inj:=λc d f k k' n hd m s=>by
     by_cases j:c=b
     .by_cases C:d=b
      .rw[j,C]
      .exfalso;simp only[bQ,aQ j] at m;simp only[bQ,aM C] at s;exact r C (y (d:=0) C hd) m s
     .by_cases C:d=b
      .exfalso;simp only[bQ,aM j] at m;simp only[bQ,aQ C] at s;exact r j (y (d:=0) j n) s m
      .simp only[bQ,aM j] at m;simp only[bQ,aM C] at s;exact h.inj c d f k k' (y (d:=0) j n) (y (d:=0) C hd) m s
    fresh:=λc f k n m=>by
     by_cases j:c=b
     .simp only[bQ,aQ j] at m;refine⟨?_,(J f k m).1⟩;rcases Q f k m with q|q
      .exact(u f q).1
      .exact .inl (gj h.base q)
     .simp only[bQ,aM j] at m;have:=h.fresh c f k (y (d:=0) j n) m;exact⟨this.1,B6 this.2 t.below.size⟩
    tu:=t.tu
    sep:=λc cx f k F n m z=>by
     by_cases j:c=b
     .simp only[bQ,aQ j] at m;exact absurd z ((J f k m).2 F)
     .simp only[bQ,aM j] at m;rw[aV _ j] at n;by_cases V:γ.I f F
      .exact h.sep c cx f k F n m V
      .have Z:=t.pZ f F z V;have s:=(h.fresh c f k (by rw[n];simp) m).2;omega }
theorem vy.rep{I:Nat->Nat->Prop}{j:Nat->Option (Nat×Nat)}{k:Nat->Option bF}{w:World}{e:Ty}{l:List e.den}{L:Option (Nat×Nat)}{v:Value}{b m:Nat}{bx:bF}(h:vy w I e l L v)
  (f:j b=L) (s:k b=some bx) (g:bx.aP=m) (c:bx.buf=true) (i:bx.val=.data (.slice e) l):cl ⟨I,j⟩ k w (.whole b m) .val [v]:=by
 rcases h with ⟨o,p,q⟩|⟨n,r,t,tid,u,o,p,q,x,y,z,A,C,D⟩
 .exact⟨⟨v,rfl,by rw[q];rfl⟩,eE s g ⟨e,l.length,c,bF.dk c i,.inl ⟨by rw[<-o];exact f,by rw[q]⟩⟩⟩
 .exact⟨⟨v,rfl,by rw[p];rfl⟩,eE s g ⟨e,l.length,c,bF.dk c i,.inr ⟨n,r,by rw[<-o];exact f,by rw[p]⟩⟩⟩
theorem aar{j:Nat->Option bF}(h:bB B γ j w){b p:Nat}{k:bF}{e:Ty}{l:List e.den}{v:Value}(y:j b=some k)(q:k.aP=p)(f:k.buf=true)(z:k.ro=false)(g:k.val=.data (.slice e) l)
  (G:cl γ j w (.whole b p) .val [v]):vy w γ.I e l (γ.loc b) v/\0<e.size:=by
 obtain⟨R,n,S,E,c⟩:=bk y q G.2;rw[bF.dk f g] at E;obtain⟨rfl,rfl⟩:=br (aI E);have m:=h.boxes b k y;unfold cE at m;rw[f] at m;obtain⟨T,U,F,H,i⟩:=m;rw[g] at F;cases F;refine⟨?_,H⟩;rcases i with ⟨i,A⟩|⟨r,s,C,tid,J,i,A,K,V,L,M,O,D⟩
 .rcases c with ⟨c,t⟩|⟨u,x,c,t⟩
  .exact .inl ⟨c,A,ur t⟩
  .rw[i] at c;cases c
 .rcases c with ⟨c,t⟩|⟨u,x,c,t⟩
  .rw[i] at c;cases c
  .rw[i] at c;obtain⟨rfl,rfl⟩:=br (aI c);refine .inr ⟨r,s,C,tid,J,i,ur t,A,K,L,M,O,λo Q=>?_,D⟩;have:=(h.sep b k r s o y i Q).1;rw[z] at this;cases this
theorem sy{e:Ty}{v:aO}{b j:Nat}{k:bF}{l:List e.den}(h:xU e σ v=some (b,j,k,l)):σ.mem b=some k/\k.aP=j/\k.buf=true/\k.lk=false/\k.ro=false/\k.tid=0 /\
  ∃m:List e.den,k.val=.data (.slice e) m/\((v=.whole b j/\l=m)\/∃n,v=.part b j 0 n/\l=sub m 0 n):=by
 unfold xU at h;split at h
 .rename_i s g;split at h
  .rename_i c o;cases f:(Nat.beq c.aP g&&c.buf&&!c.lk&&!c.ro&&Nat.beq c.tid 0) with
   | false=>rw[f] at h;cases h
   | true =>
     rw[f] at h;simp only[dv,jL] at f;simp only[eC] at h;split at h
     .rename_i u m i;split at h
      .rename_i t p;obtain⟨q,r⟩:=jM p;subst q;subst r;cases h;exact⟨o,eT f.1.1.1.1,f.1.1.1.2,f.1.1.2,f.1.2,eT f.2,_,i,.inl ⟨rfl,rfl⟩⟩
      .cases h
     .cases h
  .cases h
 .rename_i s g x n;split at h
  .rename_i c o;cases f:(Nat.beq c.aP g&&c.buf&&!c.lk&&!c.ro&&Nat.beq c.tid 0&&decide (x=0)) with
   | false=>rw[f] at h;cases h
   | true =>
     rw[f] at h;simp only[dv,jL,kQ] at f;simp only[eC] at h;split at h
     .rename_i u m i;split at h
      .rename_i t p;obtain⟨q,r⟩:=jM p;subst q;subst r;cases h;have y:=f.2;subst y;exact⟨o,eT f.1.1.1.1.1,f.1.1.1.1.2,f.1.1.1.2,f.1.1.2,eT f.1.2,_,i,.inr ⟨n,rfl,rfl⟩⟩
      .cases h
     .cases h
  .cases h
 .cases h
theorem Ua{p:Nat->Option bF}(h:bB B γ p w){b u:Nat}{q:bF}{e:Ty}{l:List e.den}{n:Int}{v:Value}(D:p b=some q)(y:q.aP=u)(f:q.buf=true)(E:q.ro=false)(j:q.val=.data (.slice e) l)
  (O:cl γ p w (.part b u 0 n) .val [v]):vy w γ.I e (sub l 0 n) (γ.loc b) v/\0<e.size:=by
 obtain⟨X,k,H,Y,Z,k5,J,m,A,k7,k8,Q,k9⟩:=bk D y O.2;rw[bF.dk f j] at H;obtain⟨rfl,rfl⟩:=br (aI H);have r:=h.boxes b q D;unfold cE at r;rw[f] at r;obtain⟨e3,l3,K,R,c⟩:=r;rw[j] at K;cases K;refine⟨?_,R⟩;obtain A:=ur A;have hlen:(sub l 0 n).length=n.toNat:=by
  have:n.toNat<=l.length:=by omega
  simp only[sub,fB,kx];omega
 rcases Q.2 rfl f with ⟨s,rfl,rfl⟩|⟨t,s,rfl⟩
 .rcases c with ⟨c,C⟩|⟨t,F,z,tid,L,c,_⟩
  .subst C;have:n.toNat=0:=by omega
   exact .inl ⟨s,by simp[sub],by rw[A,this]⟩
  .rw[s] at c;cases c
 .rcases c with ⟨c,C⟩|⟨M,F,z,tid,L,c,C,S,q6,q7,T,U,G⟩
  .rw[s] at c;cases c
  .rw[s] at c;obtain⟨rfl,rfl⟩:=br (aI c);refine .inr ⟨t,m,z,tid,L,s,by rw[hlen];exact A,C,S,by rw[hlen];omega,T,U,λo V=>?_,λi x W=>G i x ?_⟩
   .have:=(h.sep b q t m o D s V).1;rw[E] at this;cases this
   .have g:((l.drop (0:Int).toNat).take n.toNat)[i]?=some x:=W;rw[fi] at g;split at g
    .simpa using g
    .cases g
theorem Ng{e:Ty}{v:aO}{b m:Nat}{s:bF}{l:List e.den}{j:Value}(o:bB B γ σ.mem w)(h:xU e σ v=some (b,m,s,l))(p:cl γ σ.mem w v .val [j]):vy w γ.I e l (γ.loc b) j/\0<e.size:=by
 obtain⟨q,c,f,t,k,r,u,g,i⟩:=sy h;rcases i with ⟨rfl,rfl⟩|⟨n,rfl,rfl⟩
 .exact aar o q c f k g p
 .exact Ua o q c f k g p
theorem pB{f:Nat}{s:Xk}(h:uy cx bf d f=some s):find cx.Lo f=some s:=by
 unfold uy at h;split at h
 .rename_i e b;split at h
  .obtain rfl:=aI h;exact b
  .cases h
 .rename_i b;obtain rfl:=aI h;exact b
 .rename_i b;obtain rfl:=aI h;exact b
 .cases h
theorem G9{f:Nat}{e:Ty}{i:List aO}{s:Array Value}(G:gk P f (.clone e))(h:cW B N γ σ a w)(M:∀k,d=some k->k<N)(O:lV γ σ.mem w i s.toList)
  (g:(lA nb e d i σ).run=some bb) {K:Act->World->Prop} (Q:BC B N γ σ a w d bb K) :
  (∃t m,P.funcs[f]?=some t/\(t.name == "runtime.NumGoroutine")=false/\t.body=some m)/\Calls P f s w λe w'=>∃v,e=.returned v/\K (a.put d v) w':=by
 unfold lA at g;split at g
 case h_2=>cases g
 rename_i k x;split at g
 case h_2=>cases g
 rename_i l bG R;change List e.den at l;obtain⟨u,g⟩:=aC g;have u:0<e.size:=by simpa using u
 obtain⟨n,g⟩:=cv g;obtain⟨aP,p,y⟩:=dM g;obtain rfl:=aI y;obtain⟨S,r,z,T,U⟩:=O.cons;have j:r=[]:=by have:=U.1;simpa using this
 subst j;obtain⟨A,C,V,W,X,D⟩:=mA h T R;have D:=ur D;refine⟨G.1,(G.2 A.I w s l (λb o Y=>C.ok.tu b o Y) ⟨W,[],by rw[z,D],X,rfl⟩ n).mono λq w' Z=>?_⟩;obtain⟨v,I',L,rfl,h1,H,h3⟩:=Z;refine⟨v,rfl,?_⟩;obtain⟨m1,J⟩:=C.ok.T9 (b:=nb+k) (su:={ val:=.data (.slice e) l,tid:=0,buf:=true,ro:=false,lk:=false,aP }) (λ_ hf=>hf.elim) h1 H (λE c hl=>.inr (h3 E c hl))
  (λF h0=>.inl (p F h0)) rfl rfl rfl u
 exact Q _ _ w' (C.step J m1 (M k rfl)<|H.rep (by simp) (bw _ _) rfl rfl rfl) (V.trans J)
theorem LA{f:Nat}{e A:Ty}{t:Bool}{p:List e.den->A.den->Option (List e.den)}{r:List aO}{T:Array Value}(hs:gk P f (.own e A t p))(h:cW B N γ σ a w)(hd:∀k,d=some k->k<N)(hv:lV γ σ.mem w r T.toList)
  (i:(rK e A t p d r σ).run=some bb) {K:Act->World->Prop} (hK:BC B N γ σ a w d bb K) :
  (∃U D,P.funcs[f]?=some U/\(U.name == "runtime.NumGoroutine")=false/\U.body=some D)/\Calls P f T w λe w'=>∃v,e=.returned v/\K (a.put d v) w':=by
 unfold rK at i;split at i
 case h_2=>cases i
 rename_i v0 vs;split at i
 case h_2=>cases i
 rename_i x bG hg;split at i
 case h_2=>cases i
 rename_i b V E l F;obtain⟨G,u,i⟩:=b4 i;obtain⟨W,H,g,hlk,X,s,l0,J,y⟩:=sy F;obtain⟨Y,L,Z,g1,g2⟩:=hv.cons;obtain⟨j,C,s2,z⟩:=rO h g2 hg;obtain⟨M,he⟩:=Ng C.ok F (g1.ext s2);refine⟨hs.1,(hs.2 j.I w T Y L l G (j.loc b) x (λb o hi=>C.ok.tu b o hi) Z M z u).mono λq w' hw=>?_⟩;obtain⟨I',h1,h2⟩:=hw;have hX:∀k,(∃c,j.loc b=some (k,c))->∃m c,bG.mem b=some m/\m.ro=false/\j.loc b=some (k,c):=λk ⟨c,hc⟩=>⟨E,c,W,X,hc⟩;cases t with
 | true =>
   cases d with
   | none=>cases i
   | some k =>
     obtain rfl:=aI i;obtain⟨v',L',rfl,S,h4⟩:=h2;refine⟨v',rfl,?_⟩;obtain⟨m1,O⟩:=C.ok.T9 (b:=b) (su:={ E with val:=.data (.slice e) G,aP:=V+1 }) hX h1 S h4 (λm Q=>by
      rw[W] at Q;obtain rfl:=aI Q;exact .inl (by simp[H])) rfl g s he
     exact hK _ _ w' (C.step O m1 (hd k rfl)<|S.rep (by simp) (bw _ _) rfl g rfl) (s2.trans O)
 | false =>
   have hr':HM v0=true/\bb=(bG.b5 b { E with val:=.data (.slice e) G }).ba d (.yP .nl):=by
    cases d with
    | none=>obtain⟨q1,q2⟩:=aC i;exact⟨q1,(aI q2).symm⟩
    | some k=>obtain⟨q1,q2⟩:=aC i;exact⟨q1,(aI q2).symm⟩
   obtain⟨hwh,rfl⟩:=hr';obtain rfl:l=l0:=by
    rcases y with ⟨_,q⟩|⟨n,rfl,_⟩
    .exact q
    .cases hwh
   obtain⟨rfl,R,S⟩:=h2;refine⟨_,rfl,?_⟩;obtain⟨m1,O⟩:=C.ok.T9 (b:=b) (su:={ E with val:=.data (.slice e) G }) hX h1 S (λblk c hl=>.inl ⟨c,hl⟩) (λm Q=>by
    rw[W] at Q;obtain rfl:=aI Q;exact .inr ⟨rfl,rfl,rfl,by rw[bF.dk g J,bF.dk (bx:={ E with val:=.data (.slice e) G }) g rfl,R]⟩) rfl g s he
   refine hK _ _ w' (C.ba O m1 hd (v:=.yP .nl) (val:=.tuple #[]) ⟨#[],rfl,rfl⟩) ?_;cases d<;>exact s2.trans O
theorem Ha{f g:Nat}{c:List aO}{t:Array Value}(H:gk P f (.CR g))(h:cW B N γ σ a w)(I:∀k,d=some k->k<N)(J:lV γ σ.mem w c t.toList)
  (n:(lB nb g d c σ).run=some bb) {K:Act->World->Prop} (L:BC B N γ σ a w d bb K) :
  (∃x o,P.funcs[f]?=some x/\(x.name == "runtime.NumGoroutine")=false/\x.body=some o)/\Calls P f t w λe w'=>∃v,e=.returned v/\K (a.put d v) w':=by
 unfold lB at n;split at n
 .cases n
 .cases n
 .rename_i k v y z;obtain⟨A,p,C⟩:=dM n;obtain rfl:=aI C;obtain⟨j,r,D,M,O⟩:=J.cons;have l:r=[]:=by have:=O.1;simpa using this
  subst l;obtain⟨Q,T,m⟩:=H;obtain⟨m1,E⟩:=h.ok.newVar (b:=nb+k) (v:=v) (tid:=0) p (cs:=j.cells) T (.inl rfl) (M.kD (λu e=>z u e) λe=>absurd e y);have s:t=#[j]:=by apply B7.1;rw[D]
  rw[s];refine⟨Q,(m w j).mono λq w' R=>?_⟩;obtain⟨rfl,rfl⟩:=R;refine⟨_,rfl,L _ _ _ (h.step E m1 (I k rfl) ?_) E⟩;refine⟨#[.pointer<|some ⟨w.heap.size,0,none⟩],rfl,rfl,λi b F G=>?_⟩;cases i with
  | zero =>
    obtain⟨rfl,rfl⟩:=br (aI G);exact eE (bx:={ val:=v,tid:=0,buf:=false,ro:=false,lk:=false,aP:=A }) (bw _ _) rfl ⟨w.heap.size,0,by simp[bK],rfl⟩
  | succ i=>cases G
 .cases n
theorem LB(b:pA P B.G cx)(j:vz P B.G inl){f:Nat}{c:List aO}{xs:Array Value}(h:cW B N γ σ a w)(n:∀k,d=some k->k<N)(o:lV γ σ.mem w c xs.toList)
  (i:(tH cx nb bf inl d f c σ).run=some bb) {K:Act->World->Prop} (p:BC B N γ σ a w d bb K) :
  (∃q l,P.funcs[f]?=some q/\(q.name == "runtime.NumGoroutine")=false/\q.body=some l)/\Calls P f xs w λe w'=>∃v,e=.returned v/\K (a.put d v) w':=by
 unfold tH at i;split at i
 .rename_i e m;exact G9 (b.Lo f _<|pB m) h n o i p
 .rename_i e A r s m;exact LA (b.Lo f _<|pB m) h n o i p
 .rename_i g m;exact Ha (b.Lo f _<|pB m) h n o i p
 .exact OO b j h n o i p
theorem Jb{o:Oper}{f:Nat}{xs:Array Value}{K:Act->World->Prop}{Q:Exit->Act->World->Prop}(g:(execOp a.eval o).run P w=(callFunc f xs).run P w)
  (h:(∃c b,P.funcs[f]?=some c/\(c.name == "runtime.NumGoroutine")=false/\c.body=some b)/\Calls P f xs w λe w'=>∃v,e=.returned v/\K (a.put o.dst v) w'):o.wp P a w K Q:=by
 obtain⟨⟨c,b,i,j,k⟩,l⟩:=h;unfold Oper.wp;rw[g,ON i j k];refine l.mono λe w' m=>?_;obtain⟨v,rfl,n⟩:=m;exact n
theorem Rq(L:fo P cx){t ty:TypeId}{v:aO}{x:Value}{n:Int}(M:bB B γ σ.mem w)(D:cl γ σ.mem w v .val [x])(q:We (find cx.T t) v=true)(f:lenOf σ v=some n) :
  (Builtin.len_ #[t] ty #[x]).run P w=.ok (goInt n) w/\IntKind.i64.min<=n/\n<=IntKind.i64.max:=by
 have Y:(maxLen:Int)<=IntKind.i64.max:=by decide
 have Z:IntKind.i64.min<=0:=by decide
 have i:∀{base:Option Addr} {m c:Nat},(∃e,find cx.T t=some (.slice e))->x=.slice base m c->n=m->m<=maxLen->(Builtin.len_ #[t] ty #[x]).run P w=.ok (goInt n) w/\IntKind.i64.min<=n/\n<=IntKind.i64.max:=by
  intro base m c O hx hn M;obtain⟨e,O⟩:=O;obtain⟨Q,R,_⟩:=(L.T _ _ O).slice;subst hx;subst hn;refine⟨?_,by omega,by omega⟩;simp[Builtin.len_,run_underlying R]
 have j:∀{o:Option Ty},(match o with|some (.slice _)=>true|_=>false)=true->∃e,o=some (.slice e):=by
  intro o h;split at h
  .exact⟨_,rfl⟩
  .cases h
 cases v with
 | data u y =>
   cases u with
   | str =>
     obtain⟨rfl,E⟩:=wm D;obtain rfl:=aI f;have hT:=(L.T _ _<|iK q).str;have e1:(⟨List.toArray (α:=UInt8) y⟩:ByteArray).size=List.length (α:=UInt8) y:=by
      show(List.toArray (α:=UInt8) y).size=_
      exact GW
     refine⟨?_,?_,?_⟩
     .simp only[Builtin.len_];simp[run_underlying hT,e1,len]
     .simp only[len];omega
     .simp only[len];omega
   | slice e =>
     obtain rfl:=aI f;obtain⟨cs,F,E⟩:=dQ.1 D;rcases F with ⟨⟨_,F⟩,S⟩|⟨G,off,s,F,S,h4,_⟩
     .rw[F] at E;exact i ⟨e,iK q⟩ (show x=.slice _ 0 0 from E) (by rw[S];rfl) (nY _)
     .rw[F] at E;exact i ⟨e,iK q⟩ (show x=.slice _ _ _ from E) rfl (gj S h4)
   | arr m e =>
     obtain⟨Q,R,_⟩:=(L.T _ _<|iK q).arr;simp only[lenOf] at f;cases p:Nat.ble m 4294967296 with
     | false=>rw[p] at f;cases f
     | true =>
       rw[p] at f;obtain rfl:=aI f;have:=GV p;have h9:(4294967296:Int)<=IntKind.i64.max:=by decide
       refine⟨by simp[Builtin.len_,run_underlying R],by omega,by omega⟩
   | _=>cases f
 | oa =>
   obtain rfl:=aI f;obtain rfl:x=_:=by simpa [cl] using D
   exact i (j q) rfl rfl (nY _)
 | whole b aP =>
   simp only[lenOf] at f;split at f
   .rename_i H p;cases g:(Nat.beq H.aP aP&&H.buf) with
    | false=>rw[g] at f;cases f
    | true =>
      rw[g] at f;simp only[dv] at g;simp only[eC] at f;split at f
      .rename_i u l z;obtain rfl:=aI f;obtain⟨e',k,U,V,C⟩:=bk p (eT g.1) D.2;rw[bF.dk U z] at V;obtain⟨rfl,rfl⟩:=br (aI V);rcases C with ⟨C,I⟩|⟨G,s,C,I⟩
       .have J:=M.boxes b H p;rw[cE,U] at J;obtain⟨e3,l3,W,q2,r⟩:=J;rw[z] at W;cases W;rcases r with ⟨_,r⟩|⟨G,s,X,tid,fr,r,_⟩
        .exact i (j q) (ur I) (by rw[r];rfl) (nY _)
        .rw[C] at r;cases r
       .obtain⟨X,tid,fr,W,q2,r,q4,_⟩:=((M.boxes b H p).row C).1 _ l U z;exact i (j q) (ur I) rfl (gj r q4)
      .cases f
   .cases f
 | part b aP lo n' =>
   simp only[lenOf] at f;cases A:live σ b aP with
   | false=>rw[A] at f;cases f
   | true =>
     rw[A] at f;obtain rfl:=aI f;obtain⟨H,p,K⟩:=jP A;obtain⟨e',k,V,C,I,g5,base,s,g6,g7,g8,gF,g9⟩:=bk p K D.2;exact i (j q) (ur g6) (ZF I).symm (gj g7 g8)
 | _=>cases f
theorem eO.take{w:World}{I:Nat->Nat->Prop}{e:Ty}{l:List e.den}{cs:List Value}(h:eO w I e l cs)(k:Nat):eO w I e (l.take k) (cs.take<|k*e.size):=by
 intro i x b;rw[fi] at b;split at b
 .rename_i c;have f:(i+1)*e.size<=k*e.size:=fO _ c;rw[zm] at f;rw[V6,Bs,pb (by omega)];exact h i x b
 .cases b
theorem eO.drop{w:World}{I:Nat->Nat->Prop}{e:Ty}{l:List e.den}{cs:List Value}(h:eO w I e l cs)(k:Nat):eO w I e (l.drop k) (cs.drop<|k*e.size):=by
 intro i x b;rw[mn] at b;rw[vm,<-gx];exact h _ x b
theorem zD{α:Type}{l m:List α}{b:Int}(c:0<=b)(h:b+m.length<=l.length):(over l b m).length=l.length:=by
 simp only[over,fQ,fB,kx];omega
theorem eO.over{w:World}{I:Nat->Nat->Prop}{e:Ty}{l m:List e.den}{cs b:List Value}{c:Int}(h:eO w I e l cs)(q:eO w I e m b)(k:b.length=m.length*e.size)(r:0<=c)
  (s:c+m.length<=l.length) (A:l.length*e.size<=cs.length):eO w I e (over l c m) (aU cs (c.toNat*e.size) b):=by
 have t:(c.toNat+m.length)*e.size<=l.length*e.size:=fO _ (by omega);rw[gx] at t;have n:=(h.take c.toNat).append (rest:=[]) q (by rw[fB,fB,pb (by omega),pb (by omega)]) k;rw[xN] at n;have C:=n.append (rest:=[]) (h.drop<|c.toNat+m.length) (by rw[fQ,fQ,gx,k,fB,fB,pb (by omega),pb (by omega)]);have u:aU cs (c.toNat*e.size) b=cs.take (c.toNat*e.size)++b++cs.drop ((c.toNat+m.length)*e.size):=by
  simp only[aU,k,gx]
 rw[u];intro i x f;have hi:i<l.length:=by have:=(fq.1 f).1;rw[zD r s] at this;exact this
 have v:(i+1)*e.size<=l.length*e.size:=fO _ hi;by_cases g:(c.toNat+m.length)*e.size+(l.length-(c.toNat+m.length))*e.size=l.length*e.size
 .have y:eO w I e (Go.Ge.over l c m) (cs.take (c.toNat*e.size)++b++(cs.drop<|(c.toNat+m.length)*e.size)):=by
   intro i x f;by_cases o:i<c.toNat+m.length
   .have j:(l.take c.toNat++m)[i]?=some x:=by
     simp only[Go.Ge.over] at f;rw[Ol<|by rw[fQ,fB];omega] at f;exact f
    have p:(i+1)*e.size<=(c.toNat+m.length)*e.size:=fO _ o;rw[nh<|by rw[fQ,fB,k,pb (by omega),<-gx];exact p];exact n i x j
   .have j:(l.drop<|c.toNat+m.length)[i-(c.toNat+m.length)]?=some x:=by
     simp only[Go.Ge.over] at f;rw[Ij<|by rw[fQ,fB];omega] at f;rw[<-f];congr 1;rw[fQ,fB];omega
    have:=h.drop (c.toNat+m.length) _ x j;have z:i*e.size=(cs.take (c.toNat*e.size)++b).length+(i-(c.toNat+m.length))*e.size:=by
     rw[fQ,fB,k,pb (by omega),<-gx,<-gx];congr 1;omega
    rw[z,<-vm,Bf];exact this
  exact y i x f
 .exact absurd (by rw[<-gx];congr 1;omega) g
theorem uI(h:cW B N γ σ a w){e:Ty}{m:List e.den}{b S:Nat}{q:List B9}{chk:Nat->Ty->Bool}{g:Int}{base:Option Addr}{f:List Value}
  (hr:(jO e m b S q chk g σ).run=some bb) (hE:eO w γ.I e m f) (hn:f.length=m.length*e.size) (acG:∀u∈f,u.oneCell'=true) (h0:0<=g)
  (ahF:∀bx (l:List e.den),σ.mem b=some bx->bx.aP=S->bx.buf=true->bx.val=.data (.slice e) l->q=[]->g+m.length<=l.length)
  (ahG:∀bx k (l:List e.den),σ.mem b=some bx->bx.aP=S->bx.buf=false->(Xl q bx.val).run=some (.data (.arr k e) l)->chk k e=true->g+m.length<=k)
  (T:m=[]\/∃j c,γ.loc b=some (j,c)/\base=some ⟨j,cG q+g.toNat*e.size,none⟩) :
  ∃w',(match base with|some ad=>storeCells ad f|none=>pure ()).run P w=.ok () w'/\cW B N γ bb a w'/\Ext B γ σ.mem w γ bb.mem w':=by
 unfold jO at hr;split at hr
 case h_2=>cases hr
 rename_i bx hb;obtain⟨hcd,t⟩:=aC hr;simp only[dv,jL] at hcd;obtain⟨⟨z,hlk⟩,hro⟩:=hcd;have z:=eT z;have D:=h.ok.boxes b bx hb;have O:m=[]->f=[]:=λhm=>by subst hm;simpa using hn
 have Q:m=[]->(match base with|some ad=>storeCells ad f|none=>pure ()).run P w=.ok () w:=λhm=>by
  rw[O hm];cases base<;>rfl
 have A:∀(j c:Nat) (cur:Array Value) (tid:TypeId) (G:Nat×Nat),γ.loc b=some (j,c)->w.heap[j]?=some (.cells cur tid G)->lT cur G->cG q+g.toNat*e.size+f.length<=cur.size ->
   (match base with|some ad=>storeCells ad f|none=>pure ()).run P w=.ok () (w.setRow j (aU cur.toList (cG q+g.toNat*e.size) f).toArray):=by
  intro j c cur tid G hl hg hth E;rcases T with hm|⟨acv,c',hl',rfl⟩
  .rw[Q hm,O hm];simp only[aU,xN,eB,wS,uu,Array.toArray_toList];rw[setRow_self w j cur tid G hg]
  .rw[hl] at hl';obtain⟨rfl,rfl⟩:=br (aI hl');have:=cM (P:=P) j (cG q+g.toNat*e.size) tid G f 0 cur w hg hth (by omega) acG;rw[wS] at this;exact this
 split at t
 .rename_i n;split at t
  case h_2=>cases t
  rename_i u l y;split at t
  case h_2=>cases t
  rename_i o U;obtain rfl:=aI t;obtain⟨hq,V⟩:=jM U;subst hq;obtain rfl:o=m:=V;have E:=ahF bx l hb z n y rfl;have hlen:=zD h0 E;unfold cE at D;rw[n] at D;obtain⟨e2,l2,j1,j2,j3⟩:=D;rw[y] at j1;cases j1;have W:({ bx with val:=.data (.slice e) (over l g o) }:bF).row=bx.row:=by
   rw[bF.dk n y];exact(bF.dk (bx:=⟨.data (.slice e)<|over (α:=e.den) l g o,bx.tid,bx.buf,bx.ro,bx.lk,bx.aP⟩) (l:=over (α:=e.den) l g o) n rfl).trans (by rw[hlen])
  rcases j3 with ⟨R,X⟩|⟨j,cap,cur,tid,G,R,X,k3,H,k4,k5,k6,k7⟩
  .subst X;have hm0:o=[]:=by
    cases o with
    | nil=>rfl
    | cons x r=>simp at E;omega
   subst hm0;have e1:σ.b5 b { bx with val:=.data (.slice e) (over ([]:List e.den) g []) }=σ:=by
    have:({ bx with val:=.data (.slice e) (over ([]:List e.den) g []) }:bF)=bx:=by
     cases bx;simp only at y;subst y;simp[over]
    rw[this];cases σ;simp only[St.b5]
    congr 1
    funext i;by_cases hi:i=b
    .subst hi;simp only[CQ,eC];exact hb.symm
    .simp[iI hi]
   rw[e1];exact⟨w,Q rfl,h,Ext.refl _ _ _ _⟩
  .have s:cG ([]:List B9)+g.toNat*e.size+f.length<=cur.size:=by
    have:(g.toNat+o.length)*e.size<=cap*e.size:=fO _ (by omega);rw[gx] at this;simp only[cG];omega
   have L:=A j cap cur tid G R X k3.th s;have J:g.toNat*e.size+f.length<=cur.toList.length:=by simp only[cG] at s;show _<=cur.size;omega
   have F:(aU cur.toList (g.toNat*e.size) f).toArray.size=cur.size:=by have:=bM J;simpa using this
   obtain⟨m1,m2⟩:=h.ok.write hb hro R X (cur':=(aU cur.toList (g.toNat*e.size) f).toArray) (v:=.data (.slice e) (over l g o)) F W
    (λw' dL hx hg=>by
     show cE γ dL w' b { bx with val:=.data (.slice e) (over l g o) }
     unfold cE;simp only[n];refine⟨e,_,rfl,j2,.inr ⟨j,cap,_,tid,G,R,hg,k3.same F,H,by rw[hlen];exact k4,k5,by rw[F];exact k6,?_⟩⟩;intro i x hx';have:=eO.over (l:=l) (cs:=cur.toList) k7 hE hn h0 E (by show _<=cur.size;rw[k6];exact fO _ k4) i x hx';simpa using bI.mono hx.I hx.cells this)
   simp only[cG,sr] at L;exact⟨_,L,h.go m2 m1,m2⟩
 .rename_i n;obtain⟨old,M,Y⟩:=bind_some t;split at Y
  case h_2=>cases Y
  rename_i k u l;obtain⟨hck,Z⟩:=aC Y;split at Z
  case h_2=>cases Z
  rename_i o U;obtain⟨c,hs,hr5⟩:=bind_some Z;obtain rfl:=aI hr5;obtain⟨hq,V⟩:=jM U;subst hq;obtain rfl:o=m:=V;have E:=ahG bx k l hb z n M hck;unfold cE at D;rw[n] at D;obtain⟨j,cap,cur,tid,G,R,X,k3,H,k4⟩:=D;obtain⟨p1,p2⟩:=vw k4 M;have hvs:cV (.data (.arr k e) l)=k*e.size:=rfl;rw[hvs] at p1 p2;obtain⟨r1,r2,r3⟩:=p2;have hll:g+o.length<=(List.length (α:=e.den) l:Int):=by rw[r1];exact E
  have hlen:List.length (α:=e.den) (over (α:=e.den) l g o)=List.length (α:=e.den) l:=zD (l:=l) h0 hll;have ahJ:(g.toNat+o.length)*e.size<=k*e.size:=fO _ (by omega);rw[gx] at ahJ;have s:cG q+g.toNat*e.size+f.length<=cur.size:=by have p1':cG q+k*e.size<=cur.size:=p1;omega
  have L:=A j cap cur tid G R X k3 s;have C:((cur.toList.drop<|cG q).take<|k*e.size).length=k*e.size:=r2;have K:g.toNat*e.size+f.length<=((cur.toList.drop<|cG q).take<|k*e.size).length:=by rw[C];omega
  have ahK:bI w γ.I (.arr k e) (over l g o) (aU ((cur.toList.drop<|cG q).take<|k*e.size) (g.toNat*e.size) f):=by
   refine⟨hlen.trans r1,by rw[bM K,C],?_⟩;exact eO.over (l:=l) r3 hE hn h0 hll (by rw[C];exact Bt (by rw[r1]))
  have ahL:=rN cur.toList (cG q) (g.toNat*e.size) (k*e.size) f (by omega) p1;have W:({ bx with val:=c }:bF).row=bx.row:=Ga (bx:=bx) (p:=q) (v:=.data (.arr k e) (over l g o)) (by rw[n];exact hs) λhp _=>by
   subst hp;have y:bx.val=.data (.arr k e) l:=aI M;rw[bF.p4 n y];exact bF.p4 (bx:=⟨_,bx.tid,bx.buf,bx.ro,bx.lk,bx.aP⟩) n rfl
  have J:cG q+g.toNat*e.size+f.length<=cur.toList.length:=s;have F:(aU cur.toList (cG q+g.toNat*e.size) f).toArray.size=cur.size:=by have:=bM J;simpa using this
  obtain⟨m1,m2⟩:=h.ok.write hb hro R X (cur':=(aU cur.toList (cG q+g.toNat*e.size) f).toArray) (v:=c) F W
   (λw' dL hx hg=>by
    show cE γ dL w' b { bx with val:=c }
    unfold cE;simp only[n];refine⟨j,cap,_,tid,G,R,hg,k3.same F,H,?_⟩;have:=xY (k4.ext hx) M hs (show cl γ dL w' (.data (.arr k e)<|over l g o) .cells _ from bI.mono hx.I hx.cells ahK) (by rw[bM K,C];rfl);rw[ahL] at this;simpa using this)
  exact⟨_,L,h.go m2 m1,m2⟩
theorem Dk{e:Ty}{Q:Int->List e.den}{t:aO}{tv:Value}{r:Int×St}(h:cW B N γ σ a w)(hv:cl γ σ.mem w t .val [tv])(T:(EB e Q t σ).run=some r) :
  ∃base cap,tv=.slice base r.1.toNat cap/\0<=r.1/\∀g,eO w γ.I e (Q r.1) g->g.length=(Q r.1).length*e.size->(∀u∈g,u.oneCell'=true)->(Q r.1).length<=r.1.toNat ->
   ∃w',(match base with|some ad=>storeCells ad g|none=>pure ()).run P w=.ok () w'/\cW B N γ r.2 a w'/\Ext B γ σ.mem w γ r.2.mem w':=by
 unfold EB at T;split at T
 .rename_i b G lo n;obtain⟨bG,f,H⟩:=bind_some T;obtain rfl:=aI H;have o:∃p,σ.mem b=some p/\p.aP=G:=by
   unfold jO at f;split at f
   .rename_i p v;obtain⟨z,_⟩:=aC f;simp only[dv] at z;exact⟨p,v,eT z.1.1⟩
   .cases f
  obtain⟨p,v,x⟩:=o;obtain⟨e',k,J,R,S,g5,base,cap,g6,g7,g8,gF,K⟩:=bk v x hv.2;refine⟨base,cap,by simpa using g6,S,λg X Y A E=>?_⟩;dsimp only at X Y E;refine uI h f X Y A R (λL l y _ j m _=>?_) (λL k' l y _ j F _=>?_) ?_
  .obtain rfl:=aI (v.symm.trans y);rw[bF.dk j m] at J;obtain⟨_,rfl⟩:=br (aI J);omega
  .obtain rfl:=aI (v.symm.trans y);have m:p.val=.data (.arr k' e) l:=aI F;rw[bF.p4 j m] at J;obtain⟨_,rfl⟩:=br (aI J);omega
  .rcases K with K|⟨s,c,K,Z⟩
   .left;exact Qx (by rw[K,show(0:Int).toNat=0 from rfl] at E;rw[K];omega)
   .by_cases hm:Q n=[]
    .exact .inl hm
    .right;have he:e'=e:=by
      unfold jO at f;rw[v] at f;obtain⟨_,i⟩:=aC f;split at i
      .rename_i j;split at i
       case h_2=>cases i
       rename_i u l m;split at i
       case h_2=>cases i
       rename_i m' C;obtain⟨U,_⟩:=jM C;rw[bF.dk j m] at J;obtain⟨rfl,_⟩:=br (aI J);exact U.symm
      .rename_i j;obtain⟨old,F,D⟩:=bind_some i;split at D
       case h_2=>cases D
       rename_i k' u l;obtain⟨_,M⟩:=aC D;split at M
       case h_2=>cases M
       rename_i m' C;obtain⟨U,_⟩:=jM C;have m:p.val=.data (.arr k' u) l:=aI F;rw[bF.p4 j m] at J;obtain⟨rfl,_⟩:=br (aI J);exact U.symm
     subst he;exact⟨s,c,K,by rw[Z];simp[cG]⟩
 .rename_i b G;split at T
  case h_2=>cases T
  rename_i n V;obtain⟨bG,f,H⟩:=bind_some T;obtain rfl:=aI H;have o:∃p,σ.mem b=some p/\p.aP=G:=by
   unfold jO at f;split at f
   .rename_i p v;obtain⟨z,_⟩:=aC f;simp only[dv] at z;exact⟨p,v,eT z.1.1⟩
   .cases f
  obtain⟨p,v,x⟩:=o;obtain⟨e',k,g1,J,R⟩:=bk v x hv.2;have hbx:=h.ok.boxes b p v;have hl:∃l:List e.den,p.val=.data (.slice e) l/\n=l.length:=by
   unfold jO at f;rw[v] at f;obtain⟨_,i⟩:=aC f;split at i
   .split at i
    case h_2=>cases i
    rename_i u l hq0 m;split at i
    case h_2=>cases i
    rename_i m' C;obtain⟨U,_⟩:=jM C;subst U;refine⟨l,m,?_⟩;simp only[lenOf,v,x,g1,CQ,Bool.and_self,eC,m] at V;exact(aI V).symm
   .rename_i j;rw[g1] at j;cases j
  obtain⟨l,m,rfl⟩:=hl;rw[bF.dk g1 m] at J;obtain⟨rfl,rfl⟩:=br (aI J);have fin:∀{base:Option Addr} {cap:Nat},tv=.slice base l.length cap->(l.length=0\/∃s c,γ.loc b=some (s,c)/\base=some ⟨s,0,none⟩) ->
    ∃base cap,tv=.slice base (l.length:Int).toNat cap/\(0:Int)<=l.length/\∀g,eO w γ.I e (Q l.length) g->g.length=(Q l.length).length*e.size->(∀u∈g,u.oneCell'=true)->(Q l.length).length<=(l.length:Int).toNat ->
     ∃w',(match base with|some ad=>storeCells ad g|none=>pure ()).run P w=.ok () w'/\cW B N γ bG a w'/\Ext B γ σ.mem w γ bG.mem w':=by
   intro base cap htv hb0;refine⟨base,cap,by simpa using htv,by omega,λg X Y A E=>?_⟩;refine uI h f X Y A (by omega) (λL l' y _ j W _=>?_) (λL k' l' y _ j F _=>?_) ?_
   .obtain rfl:=aI (v.symm.trans y);rw[m] at W;cases W;omega
   .obtain rfl:=aI (v.symm.trans y);rw[g1] at j;cases j
   .rcases hb0 with hb0|⟨s,c,q1,q2⟩
    .left;exact Qx (by omega)
    .right;exact⟨s,c,q1,by rw[q2];simp[cG]⟩
  rcases R with ⟨R,S⟩|⟨s,cap,R,S⟩
  .obtain S:tv=_:=by simpa using S
   rw[cE,g1] at hbx;obtain⟨e2,l2,j1,j2,j3⟩:=hbx;rw[m] at j1;cases j1;rcases j3 with ⟨_,j4⟩|⟨_,_,_,_,_,j3,_⟩
   .exact fin (base:=none) (cap:=0) (by rw[S,j4];rfl) (.inl<|by rw[j4];rfl)
   .rw[R] at j3;cases j3
  .exact fin (ur S) (.inr ⟨s,cap,R,rfl⟩)
 .rename_i b G q u k lo n;obtain⟨bG,f,H⟩:=bind_some T;obtain rfl:=aI H;have o:∃p,σ.mem b=some p/\p.aP=G:=by
   unfold jO at f;split at f
   .rename_i p v;obtain⟨z,_⟩:=aC f;simp only[dv] at z;exact⟨p,v,eT z.1.1⟩
   .cases f
  obtain⟨p,v,x⟩:=o;obtain⟨U,s,c,g1,R,S,g5,base,cap,g6,g7,K⟩:=bk v x hv.2;refine⟨base,cap,by simpa using g6,S,λg X Y A E=>?_⟩;dsimp only at X Y E;refine uI h f X Y A R (λL l y _ j m hq0=>absurd hq0 U) (λL k' l y _ j F O=>?_) ?_
  .simp only[dv] at O;have:=eT O.1;omega
  .rcases K with K|Z
   .left;exact Qx (by rw[K,show(0:Int).toNat=0 from rfl] at E;rw[K];omega)
   .by_cases hm:Q n=[]
    .exact .inl hm
    .right;have he:u=e:=by
      unfold jO at f;rw[v] at f;obtain⟨_,i⟩:=aC f;split at i
      .split at i
       .exact absurd rfl U
       .cases i
      .obtain⟨old,F,D⟩:=bind_some i;split at D
       case h_2=>cases D
       obtain⟨O,M⟩:=aC D;split at M
       case h_2=>cases M
       rename_i m' C;obtain⟨hq',_⟩:=jM C;simp only[dv] at O;exact(Ty.eq_of_beq O.2).trans hq'.symm
     subst he;exact⟨s,c,g1,Z⟩
 .cases T
theorem Jc{I:Nat->Nat->Prop}{e:Ty}{m:List e.den}{v:Value}(h:zx w I e m v)(n:Nat)(q:n<=m.length) :
  ∃b,(Builtin.firstCells e.size n v).run P w=.ok b.toArray w/\b.length=n*e.size/\(∀u∈b,u.oneCell'=true)/\eO w I e (m.take n) b/\(Builtin.lenOf v).run P w=.ok m.length w:=by
 rcases h with ⟨rfl,g,c,k,r,s⟩|⟨t,y,c,k,r,s,z⟩
 .obtain rfl:n=0:=by simpa using q
  subst k;refine⟨[],?_,by simp,λu A=>absurd A (by simp),λi x f=>absurd f (by simp),rfl⟩;cases g with
  | none=>rfl
  | some C=>exact run_firstCells_some w e.size 0 C 0 c [] (by simp) (λj v o=>by cases o)
 .obtain⟨b,p,D,E,F⟩:=Cf (w:=w) (l:=m.take n) λi x f=>by
   rw[fi] at f;split at f
   .exact z i x f
   .cases f
  rw[fB,pb q] at p;refine⟨b,?_,p,E,F,by rw[k];rfl⟩;rw[k];exact run_firstCells_some w e.size n _ m.length c b p (λj u o=>by rw[addr_add];exact D j u o)
theorem Jd{I:Nat->Nat->Prop}{s:aq}(n:Nat)(h:n<=s.length) :
  ∃e,(Builtin.firstCells 1 n<|.string ⟨s.toArray⟩).run P w=.ok e.toArray w/\e.length=n/\(∀u∈e,u.oneCell'=true)/\eO w I (.int .u8) ((av s).take n:List Int) e/\(Builtin.lenOf<|.string ⟨s.toArray⟩).run P w=.ok (av s).length w:=by
 refine⟨(s.take n).map λb=>Value.int .u8 b.toNat,?_,by simp[h],λu l=>?_,λi x m=>?_,?_⟩
 .simp only[Builtin.firstCells,Sem.run_pure]
  congr 1
  apply QZ;have o:(⟨s.toArray⟩:ByteArray).extract 0 n=⟨(s.take n).toArray⟩:=by
   have:=Rh s (i:=0) (j:=n) (by omega) (by omega);simpa [sub,minus] using this
  rw[o];simp
 .obtain⟨_,_,rfl⟩:=pQ.1 l;rfl
 .have c:((av s).take n)[i]?=some x:=m;rw[fi] at c;split at c
  .rename_i p;simp only[av,wP] at c;cases g:s[i]? with
   | none=>rw[g] at c;cases c
   | some b =>
     rw[g] at c;obtain rfl:(b.toNat:Int)=x:=aI c;refine⟨?_,OI b⟩;apply Bq;intro j;rw[fi];split
     .rename_i f;obtain rfl:j=0:=by simp[Ty.size] at f;exact f
      rw[mn];simp[Ty.size,g,p]
     .rename_i f;obtain⟨k,rfl⟩:∃k,j=k+1:=⟨j-1,by simp[Ty.size] at f;omega⟩;simp
  .cases c
 .simp[Builtin.lenOf,av,ByteArray.size]
theorem xg(s:aq):(av s).length=s.length:=qI ..
theorem aas{s:aq}{n:Nat}(h:n<=(av s).length):n<=s.length:=by rw[xg] at h;exact h
theorem Ub(i:bB B γ σ.mem w){e:Ty}{m:List e.den}{x:aO}{v:Value}(f:cl γ σ.mem w x .val [v])(h:ux e σ x=some m)(n:Nat)(g:n<=m.length) :
  ∃b,(Builtin.firstCells e.size n v).run P w=.ok b.toArray w/\b.length=n*e.size/\(∀u∈b,u.oneCell'=true)/\eO w γ.I e (m.take n) b/\(Builtin.lenOf v).run P w=.ok m.length w:=by
 unfold ux at h;split at h
 .rename_i t;obtain⟨q,j⟩:=jM h;subst q;subst j;obtain⟨k,_⟩:=wm f;rw[k];have c:n<=List.length (α:=UInt8) t:=aas g;obtain⟨b,l,o,p,r,y⟩:=Jd (P:=P) (w:=w) (I:=γ.I) (s:=t) n c;exact⟨b,l,by rw[o];simp[Ty.size],p,r,y⟩
 .exact Jc (rm i f h) n g
theorem Je(D:fo P cx){z E F:TypeId}{t x:Operand}(h:cW B N γ σ a w)(G:∀k,d=some k->k<N)(f:(wX cx d z (cD σ t) (cD σ x) σ).run=some bb) :
  nZ P B N γ σ a w d (Builtin.copy_ #[z,E] F #[a.eval t,a.eval x]) bb:=by
 unfold wX at f;split at f
 case h_2=>cases f
 rename_i e H;split at f
 case h_1=>cases f
 rename_i m i;obtain⟨r,n,o⟩:=bind_some f;obtain rfl:=aI o;obtain⟨I,J,K,k3,k4⟩:=(D.T _ _ H).slice;obtain⟨j,p,L,c2,M⟩:=Dk (P:=P) h (h.cD t) n;have hlen:(iU (α:=e.den) m r.1).length=Nat.min m.length r.1.toNat:=by
  simp only[iU,fB];exact Nat.min_comm _ _
 obtain⟨l,O,Q,R,A,S⟩:=Ub (P:=P) h.ok (h.cD x) i (Nat.min m.length r.1.toNat) (Nat.min_le_left _ _);have c:(m.take<|Nat.min m.length r.1.toNat)=iU (α:=e.den) m r.1:=by
  simp only[iU];rcases Nat.le_total m.length r.1.toNat with b|b
  .rw[show Nat.min m.length r.1.toNat=m.length from pb b,Bd (cg _),Bd b]
  .rw[show Nat.min m.length r.1.toNat=r.1.toNat from ZN b]
 rw[c] at A;obtain⟨w',g,U,V⟩:=M l A (by rw[Q,hlen]) R (by rw[hlen];exact Nat.min_le_right _ _);have C:(iU (α:=e.den) m r.1).length<=maxLen:=by
  rcases QG (iU (α:=e.den) m r.1).length with W|W
  .omega
  .rw[hlen];refine gj (Nat.min_le_left _ _) ?_;have hv:=h.cD x;unfold ux at i;split at i
   .rename_i s X;obtain⟨q,Y⟩:=jM i;subst q;subst Y;rw[X] at hv;obtain⟨_,u⟩:=wm hv;exact gj (Bt<|xg s) u
   .rcases rm h.ok hv i with ⟨rfl,_⟩|⟨_,_,p,_,u,Z,_⟩
    .exact nY _
    .exact gj u Z
 refine⟨goInt (iU (α:=e.den) m r.1).length,w',γ,?_,?_,?_⟩
 .have y:=K.sizeOf w;simp only[Builtin.copy_,L];simp only[ad0,Zw,Qz,Sem.run_bind,run_underlying J,Result.andThen_ok,S,y,O,hlen];cases j with
  | none=>simp only[Sem.run_pure,Result.andThen_ok] at g⊢;injection g with _ g;subst g;rfl
  | some ad=>simp only at g⊢;simp only[Sem.run_bind,g,Result.andThen_ok,Sem.run_pure]
 .have h9:(maxLen:Int)<=IntKind.i64.max:=by decide
  have h8:IntKind.i64.min<=0:=by decide
  have:=U.uE G (v:=.data (.int .i64) (len<|iU (α:=e.den) m r.1)) (val:=goInt (iU (α:=e.den) m r.1).length) (mkInt ⟨by simp only[len];omega,by simp only[len];omega⟩);exact this
 .cases d<;>exact V
theorem Hb(s:fo P cx){o v:TypeId}{t:Operand}(h:cW B N γ σ a w)(j:(wY cx o (cD σ t) σ).run=some bb) :
  nZ P B N γ σ a w none (Builtin.clear_ #[o] v #[a.eval t]) bb:=by
 unfold wY at j;split at j
 case h_2=>cases j
 rename_i e y;obtain⟨r,l,m⟩:=bind_some j;obtain rfl:=aI m;obtain⟨A,C,D,S,E⟩:=(s.T _ _ y).slice;obtain⟨f,F,G,U,H⟩:=Dk (P:=P) h (h.cD t) l;have hlen:(jN r.1 e.zero).length=r.1.toNat:=by simp[jN]
 obtain⟨z,J,p⟩:=D.zero w;have K:=uG p E r.1.toNat;have g:=ng w γ.I (.arr r.1.toNat e);have b:(Builtin.zeroCells z.cells r.1.toNat).toList=eM (.arr r.1.toNat e):=by
  have n:z.cells.size=e.size:=by rw[<-dO e,<-p];simp
  rw[<-K];simp only[Builtin.zeroCells,madeCells,n]
 obtain⟨w',c,L,M⟩:=H (eM<|.arr r.1.toNat e) (λi x O=>g.2.2 i x O) (by rw[dO,hlen];rfl) (λu Q=>g.one u Q) (Bt hlen);refine⟨.tuple #[],w',γ,?_,L,M⟩;simp only[Builtin.clear_,G];simp only[ad0,Zw,Sem.run_bind,run_underlying C,Result.andThen_ok];cases f with
 | none=>simp only[Sem.run_pure,Result.andThen_ok] at c⊢;injection c with _ c;subst c;rfl
 | some V =>
   simp only at c;by_cases q:r.1.toNat=0
   .have:eM (.arr r.1.toNat e)=[]:=Qx (by rw[dO];simp[Ty.size,q]);rw[this] at c;injection c with _ c
    subst c;rw[q];simp only[Sem.run_pure,Result.andThen_ok]
   .obtain⟨k,R⟩:∃k,r.1.toNat=k+1:=⟨r.1.toNat-1,by omega⟩;rw[R] at c b⊢;simp only[Sem.run_bind,J,Result.andThen_ok,b,c,Sem.run_pure]
theorem Dl{b:Bool}{p q r:aO}{u v:Value}(i:cl γ σ.mem w p .val [u])(j:cl γ σ.mem w q .val [v])(g:(Oo b p q).run=some r) :
  ∃z,((if b then Builtin.min2 u v else Builtin.max2 u v)).run P w=.ok z w/\cl γ σ.mem w r .val [z]:=by
 unfold Oo at g;split at g
 .rename_i k n o m;obtain⟨l,h⟩:=aC g;obtain rfl:=wU l;obtain rfl:=aI h;obtain⟨rfl,e⟩:=s6 i;obtain⟨rfl,f⟩:=s6 j;have cmp:∀n m:Int,k.min<=n/\n<=k.max->k.min<=m/\m<=k.max->cl γ σ.mem w (.data (.int k)<|aeg n m) .val [.int k<|if m<n then m else n]/\cl γ σ.mem w (.data (.int k)<|imax n m) .val [.int k<|if m > n then m else n]:=by
   intro n m e f;constructor
   .unfold aeg;by_cases c:m<n
    .simp only[c,Bw,eC,ky];exact mkInt f
    .simp only[c,Wb,iT,pR];exact mkInt e
   .unfold imax;by_cases c:n<m
    .simp only[c,Bw,eC,gt_iff_lt,ky];exact mkInt f
    .simp only[c,Wb,iT,gt_iff_lt,pR];exact mkInt e
  cases b with
  | true=>exact⟨_,rfl,(cmp n m e f).1⟩
  | false=>exact⟨_,rfl,(cmp n m e f).2⟩
 .cases g
end
end Go.Ge
namespace Go.Ge
open RowKit
section
variable {P:Program} {B:qK} {N:Nat} {γ:Gh} {σ bb:St} {a:Act} {w w':World} {d:Option Nat} {cx:Ctx} {nb:Nat} {bf:List Nat} {inl:Nat->List aO->St->Tree (aO×St)}
theorem OP{f:Operand->aO}{l:List Operand}{x:aO}(h:l.map f=[x]):∃o,l=[o]/\f o=x:=by
 cases l with
 | nil=>cases h
 | cons o r=>cases r with
   | nil=>exact⟨o,rfl,by simpa using h⟩
   | cons p r=>simp at h
theorem HV{f:Operand->aO}{l:List Operand}{x y:aO}(h:l.map f=[x,y]):∃o p,l=[o,p]/\f o=x/\f p=y:=by
 cases l with
 | nil=>cases h
 | cons o r =>
   obtain⟨p,b,c⟩:=OP (l:=r) (f:=f) (x:=y) (by simp at h⊢;exact h.2);subst b;exact⟨o,p,rfl,by simp at h;exact h.1,c⟩
theorem fg{b:Type}{a:Array b}{l:List b}(h:a.toList=l):a=l.toArray:=by rw[<-h]
theorem XB{c:Type}(k:Value->Array Value->Sem c)(x:Value)(b:Array Value):(match(#[x]++b)[0]? with|some recv=>k recv ((#[x]++b).extract 1 (#[x]++b).size)|x=>stuck "call: a method without a receiver")=k x b.toList.toArray:=by
 have e:(#[x]++b)[0]?=some x:=by rw[<-ZA,QF];rfl
 have f:(#[x]++b).extract 1 (#[x]++b).size=b.toList.toArray:=by
  apply QZ;rw[Array.toList_extract,QF,ZL];simp[List.extract];rw[<-Ip,wQ]
 rw[e,f]
theorem Uc(S:fo P cx)(L:pA P B.G cx)(XC:vz P B.G inl){o:Oper}{c:Call}(F:o.op=.call c)(h:cW B N γ σ a w)(M:∀k,o.dst=some k->k<N)
  (l:(uz cx nb bf inl o.dst o.type c σ).run=some bb) {K:Act->World->Prop} {Q:Exit->Act->World->Prop} (H:BC B N γ σ a w o.dst bb K):o.wp P a w K Q:=by
 unfold uz at l;split at l
 .rename_i b g;split at l
  ·
   rename_i x t A O;obtain⟨m,p,rfl⟩:=OP A;cases U:We (find cx.T t) (cD σ m) with
   | false =>
     rw[U] at l;simp only[iT] at l;split at l
     .rename_i e b aP q u k lo n he A;obtain⟨hl,j⟩:=aC l;simp only[dv,kQ] at hl;obtain rfl:=aI j;obtain⟨bx,hbx,C⟩:=jP hl.1;have hv:=h.cD m;rw[A] at hv;obtain⟨_,V,c',g1,g2,g3,g4,base,cap,g5,g6,g7⟩:=bk hbx C hv.2;obtain g5:a.eval m=_:=by simpa using g5
      refine bU (s:=Builtin.len_ c.argTypes o.type (c.args.map a.eval)) ?_ (bN h M (x:=.int .i64 n) ?_<|mkInt ?_) H
      .unfold execOp;simp only[F,resolve,g,invoke,builtin];rfl
      .rw[fg p,fg O,show Array.map a.eval [m].toArray=#[a.eval m] from by simp,g5];simp[Builtin.len_,run_underlying (x4 S he).1,ZF g3];rfl
      .exact⟨Int.le_trans (by decide) g3,Int.le_trans hl.2 (by decide)⟩
     .exact absurd l (by intro k;cases k)
   | true =>
   have j:(match lenOf σ (cD σ m) with|some n=>Tree.ret (σ.ba o.dst<|.data (.int .i64) n)|none=>.fail).run=some bb:=by rw[U] at l;exact l
   split at j
   .rename_i n hn;obtain rfl:=aI j;obtain⟨l1,l2⟩:=Rq (ty:=o.type) S h.ok (h.cD m) U hn;refine bU (s:=Builtin.len_ c.argTypes o.type (c.args.map a.eval)) ?_ (bN h M (x:=.int .i64 n) ?_<|mkInt l2) H
    .unfold execOp;simp only[F,resolve,g,invoke,builtin];rfl
    .rw[fg p,fg O,show Array.map a.eval [m].toArray=#[a.eval m] from by simp];exact l1
   .exact absurd j (by intro k;cases k)
  .rename_i s x t u A O;obtain⟨os,m,p,rfl,rfl⟩:=HV A;have key:(∃e,P.underlying u=some (.slice e))\/P.underlying u=some .string->(gY cx nb o.dst t (cD σ os) (cD σ m) σ).run=some bb->o.wp P a w K Q:=by
    intro hk j;refine bU (s:=Builtin.append_ c.argTypes o.type (c.args.map a.eval)) ?_ ?_ H
    .unfold execOp;simp only[F,resolve,g,invoke,builtin];rfl
    .rw[fg p,fg O,show Array.map a.eval [os,m].toArray=#[a.eval os,a.eval m] from by simp];exact ER S h M hk j
   split at l
   .rename_i hu;exact key (.inr (S.T _ _ hu).str) l
   .rename_i e hu;obtain⟨Xj,f1,_⟩:=(S.T _ _ hu).slice;exact key (.inl ⟨Xj,f1⟩) l
   .exact absurd l (by intro k;cases k)
  .rename_i t x tt tx A O;obtain⟨ot,m,p,rfl,rfl⟩:=HV A;have key:(wX cx o.dst tt (cD σ ot) (cD σ m) σ).run=some bb->o.wp P a w K Q:=by
    intro j;refine bU (s:=Builtin.copy_ c.argTypes o.type (c.args.map a.eval)) ?_ ?_ H
    .unfold execOp;simp only[F,resolve,g,invoke,builtin];rfl
    .rw[fg p,fg O,show Array.map a.eval [ot,m].toArray=#[a.eval ot,a.eval m] from by simp];exact Je S h M j
   split at l
   .exact key l
   .exact key l
   .exact absurd l (by intro k;cases k)
  .rename_i t tt A O;obtain⟨ot,p,rfl⟩:=OP A;split at l
   .rename_i ahM;refine bU (s:=Builtin.clear_ c.argTypes o.type (c.args.map a.eval)) ?_ ?_ H
    .unfold execOp;simp only[F,resolve,g,invoke,builtin];rfl
    .rw[fg p,fg O,show Array.map a.eval [ot].toArray=#[a.eval ot] from by simp,ahM];exact Hb S h l
   .exact absurd l (by intro k;cases k)
  .rename_i x y A;obtain⟨m,W,p,rfl,rfl⟩:=HV A;obtain⟨v,hb,j⟩:=bind_some l;obtain rfl:=aI j;obtain⟨z,z1,z2⟩:=Dl (P:=P) (h.cD m) (h.cD W) hb;refine bU (s:=Builtin.min_ c.argTypes o.type (c.args.map a.eval)) ?_ (bN h M (x:=z) ?_ z2) H
   .unfold execOp;simp only[F,resolve,g,invoke,builtin];rfl
   .rw[fg p,show Array.map a.eval [m,W].toArray=#[a.eval m,a.eval W] from by simp];simp only[ky] at z1;simp[Builtin.min_,z1]
  .rename_i x y A;obtain⟨m,W,p,rfl,rfl⟩:=HV A;obtain⟨v,hb,j⟩:=bind_some l;obtain rfl:=aI j;obtain⟨z,z1,z2⟩:=Dl (P:=P) (h.cD m) (h.cD W) hb;refine bU (s:=Builtin.max_ c.argTypes o.type (c.args.map a.eval)) ?_ (bN h M (x:=z) ?_ z2) H
   .unfold execOp;simp only[F,resolve,g,invoke,builtin];rfl
   .rw[fg p,show Array.map a.eval [m,W].toArray=#[a.eval m,a.eval W] from by simp];simp only[Iu,pR] at z1;simp[Builtin.max_,z1]
  .exact absurd l (by intro k;cases k)
 .rename_i f g;split at l
  .rename_i fid D hf;obtain⟨X,j⟩:=aC l;have hv:=h.cD f;rw[hf] at hv;obtain⟨J,v1,v2,v3⟩:=hv;obtain v1:=ur v1;have Y:lV γ σ.mem w (D.map λb=>.ptr b.1 b.2 []) J.toList:=by
    refine⟨by simpa using v2,λi v x Z h2=>?_⟩;rw[wP] at Z;cases hi:D[i]? with
    | none=>rw[hi] at Z;cases Z
    | some bv =>
      rw[hi] at Z;obtain rfl:=aI Z;have hl:=ra.1 X bv (dY hi);obtain⟨bx,hb,C⟩:=jP hl;have hof:=v3 i bv.1 bv.2 (by rw[hi]);obtain⟨V,cap,g1,g2⟩:=bk hb C hof;have A:x=.pointer (some ⟨V,0,none⟩):=by
       have:J[i]?=some x:=by simpa using h2
       rw[g2] at this;exact(aI this).symm
      subst A;exact⟨⟨_,rfl,rfl⟩,bx,hb,Bt C.symm,λ_=>⟨V,cap,g1,rfl⟩⟩
   have E:lV γ σ.mem w (c.args.toList.map (cD σ)++D.map λb=>.ptr b.1 b.2 []) (c.args.map a.eval++J).toList:=by
    rw[QF,QM];exact(Nf h).append Y
   refine Jb (f:=fid) (xs:=c.args.map a.eval++J) ?_ (LB L XC h M E j H);unfold execOp;simp only[F,resolve,g,Deferred.ofValue,v1,Sem.run_bind,Sem.run_pure,Result.andThen_ok,invoke];simp
  .exact absurd l (by intro k;cases k)
 ·
  rename_i r R g;unfold rj at l;split at l
  .rename_i cn hcn;split at l
   .rename_i x bG A;obtain⟨y,hy,j⟩:=b4 l;obtain rfl:=aI j;have E:lV γ σ.mem w (cD σ r::c.args.toList.map (cD σ)) (a.eval r::(c.args.map a.eval).toList):=by
     rw[QM];exact Nf (ops:=r::c.args.toList) h
    obtain⟨γ1,s1,s2,s3⟩:=rO h E A;obtain⟨f,u,e1,e2,e3⟩:=L.inv R cn hcn γ1.I w (a.eval r) _ x y (λb o hi=>s1.ok.tu b o hi) s1.ok.Ox s3 hy;refine Jb (f:=f) (xs:=(u::(c.args.map a.eval).toList).toArray) ?_ ⟨e2,e3.mono λe w' hw=>?_⟩
    .rw[<-e1];unfold execOp;simp only[F,resolve,g,Sem.run_bind,Sem.run_pure,Result.andThen_ok,invoke];exact congrArg (λz:Sem Next=>z.run P w) (XB (λv=>callMethod v R) (a.eval r)<|Array.map a.eval c.args)
    .obtain⟨v,I',Z,h2,h3,h4,h5,h6⟩:=hw;refine⟨v,Z,?_⟩;obtain⟨m1,m2⟩:=s1.ok.far (I':=I') h2 h3 h4 h5;refine H ⟨I',γ1.loc⟩ _ w' (s1.ba m2 m1 M<|h6.rep λ_ _ hi=>hi) ?_;cases o.dst<;>exact s2.trans m2
   .exact absurd l (by intro k;cases k)
  .exact absurd l (by intro k;cases k)
theorem Rr{I:Nat->Nat->Prop}{c:TypeId}{u:Nat}:∀{t:Ty} {a:Ty} {f:a.den->t.den},Den P t c->Q4 t u=some ⟨a,f⟩ ->
  P.concrete u=true/\∀(y:a.den) (cs:List Value),bI w I a y cs->bI w I t (f y) [.iface u<|bZ a cs]:=by
 intro t;induction t with
 | alt n a r m e =>
   intro b f i h;unfold Q4 at h;obtain⟨l,o⟩:=i.rest;cases j:Nat.beq n u with
   | true =>
     rw[j] at h;obtain rfl:=eT j;cases h;exact⟨o,λy cs k=>⟨l.aac i,cs,rfl,k⟩⟩
   | false =>
     rw[j] at h;simp only[iT] at h;split at h
     .rename_i v g p;cases h;obtain⟨q,s⟩:=e l p;exact⟨q,λy cs k=>s y cs k⟩
     .cases h
 | _=>intro b f i h;cases h
theorem acH{c:TypeId}{u:Nat}{t:Ty}{a:Ty}{f:a.den->t.den}(e:Den P t c)(h:Q4 t u=some ⟨a,f⟩):t.isAgg=false:=by
 cases t with
 | alt n b r=>simp only[Den,eV,dv] at e;exact(Ty.IP e.2).2
 | _=>cases h
theorem Hc(n:fo P cx){o u:TypeId}{x:Operand}(h:cW B N γ σ a w)(p:∀k,d=some k->k<N)(c:(ri cx d o u (cD σ x) σ).run=some bb) :
  nZ P B N γ σ a w d (Instr.makeInterface u<|a.eval x) bb:=by
 unfold ri at c;split at c
 .rename_i t q;have e:=n.T _ _ q;split at c
  .rename_i b f l;split at c
   .rename_i y bG r;obtain rfl:=aI c;obtain⟨g,s,v,m,z,A⟩:=mA h (h.cD x) r;obtain⟨C,D⟩:=Rr (w:=w) (I:=g.I) e l;have i:a.eval x=bZ b m:=by simpa using A
    have j:=acH e l;refine⟨.iface u<|a.eval x,w,g,run_makeInterface w u _ C,s.uE p ⟨_,D y m z,?_⟩,?_⟩
    .rw[i];unfold bZ;rw[j];rfl
    .cases d<;>exact v
   .exact absurd c (by intro k;cases k)
  .exact absurd c (by intro k;cases k)
 .exact absurd c (by intro k;cases k)
theorem Rs{o:Oper}{s:Sem ai}{K:Act->World->Prop}{Q:Exit->Act->World->Prop}(c:execOp a.eval o=(do s;pure .skip))(b:o.dst=none)
  (h:∃w' bQ,s.run P w=.ok () w'/\cW B N bQ bb a w'/\Ext B γ σ.mem w bQ bb.mem w') (e:BC B N γ σ a w o.dst bb K):o.wp P a w K Q:=by
 obtain⟨w',bQ,f,g,i⟩:=h;unfold Oper.wp;rw[c];simp only[Sem.run_bind,f,Result.andThen_ok,Sem.run_pure,Oper.upon_skip];exact e bQ _ w' (by rw[b];exact g) i
theorem Cl{d:Option Nat}{k:Nat}(h:Q3 bf d=some k):d=some k/\cP bf k=true:=by
 unfold Q3 at h;split at h
 .rename_i d;cases b:cP bf d with
  | false=>rw[b] at h;cases h
  | true=>rw[b] at h;obtain rfl:=aI h;exact⟨rfl,b⟩
 .cases h
theorem Jf(A:fo P cx)(O:pA P B.G cx)(R:vz P B.G inl){o:Oper}(h:cW B N γ σ a w)(m:∀k,o.dst=some k->k<N)
  (g:(pS cx nb bf inl o σ).run=some bb) {K:Act->World->Prop} {Q:Exit->Act->World->Prop} (C:BC B N γ σ a w o.dst bb K):o.wp P a w K Q:=by
 unfold pS at g;split at g
 case h_1 x j=>exact bU (s:=pure (a.eval x)) (by simp only[execOp,j];rfl) (xd A h m g) C
 case h_2 x j=>exact bU (s:=pure (a.eval x)) (by simp only[execOp,j];rfl) (xd A h m g) C
 case h_3 c x y j=>exact bU (s:=do pure (if <-asBool (a.eval c) then a.eval x else a.eval y)) (by simp only[execOp,j];simp[bind_assoc]) (IZ h m g) C
 case h_4 elem j =>
  split at g
  .rename_i k t D F;rw[D] at m;refine bU (s:=Instr.alloc elem true (.tuple #[])) (by simp only[execOp,j]) ?_ C;rw[D];exact G5 A h (m k rfl) F g
  .rename_i k D F;rw[D] at m;refine bU (s:=Instr.alloc elem true (.tuple #[])) (by simp only[execOp,j]) ?_ C;rw[D];split at g
   .rename_i fs Y;exact G4 A h (m k rfl) Y g
   .obtain⟨Z,r⟩:=aC g;exact G3 A h (m k rfl) Z r
  .exact absurd g (by intro k;cases k)
 case h_5 elem x j =>
  unfold CU at g;split at g
  .exact absurd g (by intro k;cases k)
  .exact absurd g (by intro k;cases k)
  .rename_i k D Z h2;rw[D] at m;refine bU (s:=Instr.box elem (a.eval x)) (by simp only[execOp,j]) ?_ C;rw[D];split at g
   .exact Ls h (m k rfl) Z h2 g
   .exact Xx h (m k rfl) Z h2 g
  .exact absurd g (by intro k;cases k)
 case h_6 t parts j =>
  refine bU (s:=Instr.build t (parts.map λ(i,x)=>(i,a.eval x))) (by simp only[execOp,j]) ?_ C;split at g
  .rename_i u v F;split at g
   .rename_i x bG E;obtain rfl:=aI g;exact Cg A h m F E
   .exact absurd g (by intro k;cases k)
  .rename_i n e F;split at g
   .rename_i l bG E;obtain rfl:=aI g;exact Df A h m F E
   .exact absurd g (by intro k;cases k)
  .split at g
   .rename_i fs Y;split at g
    .rename_i z0 S;split at g
     .rename_i p q E;obtain rfl:=aI g;exact G7 A h m Y S E
     .rename_i u E;obtain rfl:=aI g;exact EM A h m Y S E
     .exact absurd g (by intro k;cases k)
    .exact absurd g (by intro k;cases k)
   .exact absurd g (by intro k;cases k)
  .exact absurd g (by intro k;cases k)
 case h_7 t n parts j =>
  refine bU (s:=Instr.buildSlice t n (parts.map λ(i,x)=>(i,a.eval x))) (by simp only[execOp,j]) ?_ C;split at g
  .rename_i e F;split at g
   .rename_i k T I;obtain⟨D,_⟩:=Cl T;have hp:parts=#[]:=by simpa using I
    rw[D,hp];rw[D] at m;rw[Array.map_empty];exact EO A h (m k rfl) F g
   .obtain⟨hn,r⟩:=aC g;split at r
    .rename_i l bG E;obtain rfl:=aI r;exact EN A h m F hn E
    .exact absurd r (by intro k;cases k)
  .exact Lu A h m g
  .exact absurd g (by intro k;cases k)
 case h_8 t x j=>exact bU (s:=Instr.loadAt t (a.eval x)) (by simp only[execOp,j]) (I4 A h m g) C
 case h_9 t x y j =>
  split at g
  .rename_i D;exact Rs (s:=Instr.storeAt t (a.eval x) (a.eval y)) (by simp only[execOp,j]) D (G2 A h g) C
  .exact absurd g (by intro k;cases k)
 case h_10 x j =>
  have hv:=h.cD x;have fin:∀{v:aO} {y:Value},a.eval x=y->execOp a.eval o=(do pure<|.value (<-(pure y:Sem Value)))->cl γ σ.mem w v .val [y]->bb=σ.ba o.dst v->o.wp P a w K Q:=by
   intro v y he hs hr0 hσ;subst hσ;exact bU (s:=pure y) hs (bN h m rfl hr0) C
  split at g
  .rename_i b aP p J;rw[J] at hv;obtain⟨hl,r⟩:=aC g;obtain⟨bx,E,U⟩:=jP hl;obtain⟨blk,cap,H,M⟩:=bk E U hv.2;have M:=ur M;rw[M] at hv;exact fin M (by simp only[execOp,j,M];rfl) hv (aI r).symm
  .rename_i t y J;rw[J] at hv;obtain⟨blk,off,cs,H,M,g3⟩:=id hv;have H:=ur H;rw[H] at hv;exact fin H (by simp only[execOp,j,H];rfl) hv (aI g).symm
  .rename_i f c J;rw[J] at hv;obtain⟨arr,H,M,g3⟩:=id hv;have H:=ur H;rw[H] at hv;exact fin H (by simp only[execOp,j,H];rfl) hv (aI g).symm
  .exact absurd g (by intro k;cases k)
 case h_11 op xt x y pos j =>
  obtain⟨v,E,r⟩:=bind_some g;obtain rfl:=aI r;obtain⟨z,V,W⟩:=T0 (P:=P) (x:=x) (y:=y) A (h.cD x) (h.cD y) E;refine bU (s:=gA op xt x y (a.eval x) (a.eval y)) (by simp only[execOp,j,gA]) (bN h m V W) C
 case h_12 op ty x j =>
  obtain⟨v,E,r⟩:=bind_some g;obtain rfl:=aI r;obtain⟨z,V,W⟩:=aag (P:=P) (h.cD x) E;exact bU (s:=Op.unary op (a.eval x)) (by simp only[execOp,j]) (bN h m V W) C
 case h_13 src dst x j=>exact bU (s:=convert src dst (a.eval x)) (by simp only[execOp,j]) (Dh A h m g) C
 case h_14 f first X j =>
  split at g
  .rename_i cs L hcs;obtain rfl:=aI g;refine bU (s:=Instr.makeFunc (.func f) #[] (X.map a.eval)) ?_ (I5 h m hcs) C;have:first=#[]:=by simpa using L
   simp only[execOp,j,this,show Array.map a.eval #[]=#[] from by simp]
  .exact absurd g (by intro k;cases k)
 case h_15 t x lo hi j=>exact bU (s:=Instr.sliceAt t (a.eval x) (lo.map a.eval) (hi.map a.eval) none) (by simp only[execOp,j];rfl) (G1 A h m g) C
 case h_16 s x k j=>exact bU (s:=Instr.fieldAt s (a.eval x) k) (by simp only[execOp,j]) (Bh A h m g) C
 case h_17 xt x k j =>
  have hv:=h.cD x;split at g
  .rename_i u y J;rw[J] at hv;obtain⟨F,r⟩:=aC g;split at r
   .rename_i off v hf;obtain rfl:=aI r;obtain⟨z,V,W⟩:=Rg (P:=P) A (iK F) hv hf;exact bU (s:=Instr.field xt (a.eval x) k) (by simp only[execOp,j]) (bN h m V W) C
   .exact absurd r (by intro k;cases k)
  .exact absurd g (by intro k;cases k)
 case h_18 t x i j =>
  split at g
  .rename_i ki n hi;have hv:=h.cD i;rw[hi] at hv;obtain⟨ei,_⟩:=s6 hv;refine bU (s:=Instr.indexAt t (a.eval x) (a.eval i)) (by simp only[execOp,j]) ?_ C;rw[ei];cases hm:cP bf 5000000 with
   | true=>rw[hm] at g;exact GZ A h m g
   | false=>rw[hm] at g;exact tw A h m g
  .exact absurd g (by intro k;cases k)
 case h_19 t x i j =>
  split at g
  .rename_i ki n hi;have hv:=h.cD i;rw[hi] at hv;obtain⟨ei,_⟩:=s6 hv;refine bU (s:=Instr.index t (a.eval x) (a.eval i)) (by simp only[execOp,j]) ?_ C;rw[ei];exact G0 A h m g
  .exact absurd g (by intro k;cases k)
 case h_20 t l c j =>
  split at g
  .rename_i k e kl ln kc cn D F hl hcc;rw[D] at m;obtain⟨OM,r⟩:=cv g;obtain⟨hf,hr3⟩:=cv r;refine bU (s:=Instr.makeSlice t (a.eval l) (a.eval c)) (by simp only[execOp,j]) ?_ C;rw[D];exact G8 A h (m k rfl) F hl hcc OM hf hr3
  .exact absurd g (by intro k;cases k)
 case h_21 t k j =>
  split at g
  .rename_i vs J;split at g
   .rename_i v hn;obtain rfl:=aI g;exact bU (s:=Instr.extract (a.eval t) k) (by simp only[execOp,j]) (Lt h m J hn) C
   .exact absurd g (by intro k;cases k)
  .exact absurd g (by intro k;cases k)
 case h_22 c j=>exact Uc A O R j h m g C
 case h_23 u x j=>exact bU (s:=Instr.makeInterface u (a.eval x)) (by simp only[execOp,j]) (Hc A h m g) C
 case h_24=>exact absurd g (by intro k;cases k)
end
end Go.Ge
