import Derived.Test.YtcebnmppipejfaaGreatDoorGeD
import Derived.Laws.Build
set_option linter.unusedVariables false
set_option linter.unusedSimpArgs false
set_option linter.unusedSectionVars false
set_option linter.defProp false
open Option renaming some->aa,none->af
open Go.IntKind (i64)
namespace Go.Ge
open RowKit
def zG(P:Program)(G:Eh)(inl:Nat->List cw->St->Tree (cw×St)):Prop :=∀(B:DW) (γ:Gh) (σ bb:St) (w:World) (f:Nat) (b:List cw) (i:Array Value) (v:cw),B.G=G->bP B γ σ.mem w->nH γ σ.mem w b i.toList->(inl f b σ).run=aa (v,bb) ->(∃h c,P.funcs[f]?=aa h/\(h.name == "runtime.NumGoroutine")=false/\h.body=aa c)/\bb.bw=σ.bw /\Calls P f i w λe w'=>∃g bM,e=.returned g/\bP B bM bb.mem w'/\Ext B γ σ.mem w bM bb.mem w'/\cK bM bb.mem w' v .val [g]
section
variable {P:Program} {B:DW} {N:Nat} {γ:Gh} {σ bb:St} {a:Act} {w w':World} {d:Option Nat} {cx:Ctx} {nb:Nat} {bf:List Nat} {inl:Nat->List cw->St->Tree (cw×St)}
def I8(B:DW)(N:Nat)(c:Gh)(e:St)(a:Act)(w:World)(d:Option Nat)(b:St)(K:Act->World->Prop):Prop :=∀bM v w',dz B N bM b (a.put d v) w'->Ext B c e.mem w bM b.mem w'->K (a.put d v) w'
def V4{f:Nat}{fn code}(c:P.funcs[f]?=aa fn)(e:(fn.name == "runtime.NumGoroutine")=false)(g:fn.body=aa code) args w :
  (callFunc f args).run P w=.ok (.enter f args) w:=by
 have b:¬fn.name = "runtime.NumGoroutine":=by simpa using e
 simp[callFunc,c,b,g]
def b6{o s K Q}(b:execOp a.eval o=(do pure<|.value (<-s)))(h:pr P B N γ σ a w o.dst s bb)(c:I8 B N γ σ a w o.dst bb K):o.wp P a w K Q:=by obtain⟨v,w',bM,e,f,g⟩:=h;unfold Oper.wp;rw[b];simp only[Sem.run_bind,e];exact c bM _ w' f g
def UA{ops:List Operand}(h:dz B N γ σ a w):nH γ σ.mem w (ops.map<|dm σ) (ops.map a.eval):=by refine⟨aW,λi v x b c=>?_⟩;rw[B7] at b c;cases e:ops[i]? with|none=>rw[e] at b;cases b|some o =>rw[e] at b c;obtain rfl:=aU b;obtain rfl:=aU c;exact h.dm o
def nH.append{mem vs us f g}(h:nH γ mem w vs f)(k:nH γ mem w us g):nH γ mem w (vs++us) (f++g):=by
 refine⟨by simp[h.1,k.1],λi v x c b=>?_⟩;rw[VM] at c b;rw[h.1] at b;split at c
 {rename_i e;rw[aN e] at b;exact h.2 i v x c b};rename_i e;rw[aK e] at b;exact k.2 _ v x c b
def bP.drop{mem w'}(h:bP B γ mem w){b UB bx}(t:mem b=aa UB)(j:UB.aY<bx.aY)(m:yh B w w')
  (l:∀k,k<w.heap.size->(∀c,γ.loc b≠aa (k,c))->w'.heap[k]?=w.heap[k]?) (i:∀k o,k<w.heap.size->w'.cell? ⟨k,o,af⟩=w.cell? ⟨k,o,af⟩) (y:e7 (bT γ b af) (dh mem b bx) w' b bx):bP B (bT γ b af) (dh mem b bx) w'/\Ext B γ mem w (bT γ b af) (dh mem b bx) w':=by
 have hx:Ext B γ mem w (bT γ b af) (dh mem b bx) w' :=
  { below:=m
    I:=λ_ _ x=>x
    s9:=λ_ _ x=>.inl x
    cells:=λblk o x=>i blk o (h.xd blk o x)
    boxes:=λc cx f=>by
     by_cases e:c=b
     .subst e;obtain rfl:UB=cx:=aU (t.symm.trans f);exact⟨bx,bK _ _,Nat.le_of_lt j,λe=>absurd e ai⟩
     .exact⟨cx,by rw[bh _ e];exact f,b8 _,λ_=>⟨by simp[bT,e],rfl,rfl⟩⟩ }
 refine⟨?_,hx⟩;exact
  { dk:=h.IP hx
    base:=gS h.base m.size
    boxes:=λc cx f=>by
     by_cases e:c=b
     .subst e;rw[bK] at f
      grind
     .rw[bh _ e] at f;refine(h.boxes c cx f).keep hx (by simp[bT,e]) λblk k u=>l blk (h.fresh c blk k (by rw[f];simp) u).2 λp q=>e ?_;exact h.inj c b blk k p (by rw[f];simp) (by rw[t];simp) u q
    inj:=λc d blk k p f v g n=>by
     by_cases e:c=b
     .simp only[bT,aN e] at g;cases g
     .by_cases r:d=b
      .simp only[bT,aN r] at n;cases n
      .simp only[bT,aK e] at g;simp only[bT,aK r] at n;rw[bh _ e] at f;rw[bh _ r] at v;exact h.inj c d blk k p f v g n
    fresh:=λc blk k f g=>by
     by_cases e:c=b
     .simp only[bT,aN e] at g;cases g
     .simp only[bT,aK e] at g;rw[bh _ e] at f;have:=h.fresh c blk k f g;exact⟨this.1,Hq this.2 m.size⟩
    xd:=λblk off s=>Hq (h.xd blk off s) m.size
    sep:=λc cx blk k off f g s=>by
     by_cases e:c=b
     .simp only[bT,aN e] at g;cases g
     .simp only[bT,aK e] at g;rw[bh _ e] at f;exact h.sep c cx blk k off f g s }
def YJ{mem b c}(h:mem b=aa c):dh mem b c=mem:=by
 funext i;by_cases e:i=b
 {subst e;rw[bK,h]};rw[bh _ e]
def SX{f s R xs}(hs:e8 P f s)(h:dz B N γ σ a w)(hd:∀k,d=aa k->k<N)(hv:nH γ σ.mem w R xs.toList)
  (C:(FC s d R σ).run=aa bb) {K} (hK:I8 B N γ σ a w d bb K) : (∃fn code,P.funcs[f]?=aa fn/\(fn.name == "runtime.NumGoroutine")=false/\fn.body=aa code)/\Calls P f xs w λe w'=>∃v,e=.returned v/\K (a.put d v) w':=by
 unfold FC at C;split at C
 .rename_i T b aY;split at C;case h_2=>cases C
  rename_i Y S;split at C;case h_2=>cases C
  rename_i b' v' u un A;obtain⟨n,F⟩:=aD C;obtain rfl:=aU F;simp only[gC,Hr] at n;obtain⟨⟨⟨⟨⟨⟨⟨⟨c1,c2⟩,c3⟩,c4⟩,c5⟩,c6⟩,c7⟩,c8⟩,c9⟩:=n;have c1:=iN c1;have c5:=iN c5;have c7:=iN c7;have c8:=iN c8;have c6:0<T:=by simpa using c6
  subst c7;subst c8;obtain⟨val,G,Z,g1,g2⟩:=hv.cons;have r:G=[]:=by have:=g2.1;simpa using this
  subst r;obtain⟨m,i,U,g3⟩:=bC S c1 g1.2;simp only[er] at g3;obtain rfl:xs=#[.pointer<|some ⟨m,0,af⟩]:=by apply Iv.1;rw[Z,g3]
  have t:=h.ok.boxes b' Y S;unfold e7 at t;rw[c2] at t;obtain⟨afl,anx,z,tid,fr,a1,a2,a3,a4,a5⟩:=t;rw[U] at a1;obtain⟨rfl,rfl⟩:=b9 (aU a1);have H:tid=T:=by grind
  subst H;rw[A] at a5;obtain⟨cs1,cs2,e1,e2,e3⟩:=a5;obtain⟨cs3,cs4,e4,e5,e6⟩:=e3;obtain⟨⟨p,rfl,hp1⟩,hp2⟩:=e2;obtain⟨q,hq⟩:∃q,cs3=[q]:=by (cases u<;>first|(cases c9;done)|skip);obtain⟨⟨q,hq,_⟩,_⟩:=e5;grind
  subst hq;obtain rfl:cs4=[]:=e6;have I:z=#[p,q]:=by apply Iv.1;rw[e1,e4];rfl
  subst I;obtain⟨as4,aqF,j1,j2⟩:=bC S c1 hp2;rw[U] at j1;obtain⟨rfl,rfl⟩:=b9 (aU j1);refine⟨hs.1,(hs.2 w m p q fr a2 (a3 0 aW)<|j2.imp D4 D4).mono λe w' D=>?_⟩;obtain⟨rfl,D⟩:=D;refine⟨_,rfl,?_⟩;have V:∀{bM cS w'},cK bM cS w' (.D0 .nl) .val [.tuple #[]]:=λ{_ _ _}=>⟨#[],rfl,rfl⟩;rcases D with rfl|rfl;{refine hK γ _ _ (h.yu hd V) ?_;cases d<;>apply Ext.refl};(have ao3:({ Y with val:=Y.val }:Box)=Y:=by cases Y;rfl);(obtain⟨m1,m2⟩:=h.ok.write S c4 U a2 (cur':=#[.pointer _,q]) aW (by rw[ao3]) (λw' cS hx hg=>by (rw[c2];refine⟨m,i,_,tid,fr,U,hg,λo ho=>a3 o (by simpa using ho),a4,?_⟩;rw[A];refine⟨[.pointer _],[q],rfl,?_,[q],[],rfl,e5.ext hx,rfl⟩;have hp3:oz cS b' v' λ_=>∃m i,γ.loc b'=aa (m,i):=by obtain⟨UB,k1,k2,k3⟩:=hp2;obtain⟨wE,q1,q2,J⟩:=hx.boxes b' UB k1;exact⟨wE,q1,gS k2 q2,λ_=>⟨m,i,U⟩⟩);obtain⟨wE,q1,q2,J⟩:=hp3;exact⟨⟨_,rfl,rfl⟩,wE,q1,q2,λ_=>⟨m,i,U,.inr rfl⟩⟩));rw[ YJ S] at m1 m2;refine hK γ _ _ (h.bF m2 m1 hd V) ?_;cases d<;>exact m2
 .rename_i T E b aY;split at C;case h_2=>cases C
  rename_i Y S;split at C;case h_2=>cases C
  rename_i b' v' hh hv' un A;obtain⟨n,F⟩:=aD C;simp only[gC,Hr] at n;obtain⟨⟨⟨⟨c1,c2⟩,c5⟩,c6⟩,c7⟩:=n;have c5:=iN c5;have c6:0<T:=by simpa using c6
  split at F;case h_2=>cases F
  rename_i hx Q;obtain⟨n,hr3⟩:=aD F;simp only[gC] at n;obtain⟨⟨⟨⟨d1,d2⟩,d3⟩,d4⟩,d5⟩:=n;have d4:=iN d4;have d5:0<E:=by simpa using d5
  split at hr3;case h_2=>cases hr3
  rename_i l hhv;change List Int at l;obtain rfl:=aU hr3;obtain⟨val,G,Z,g1,g2⟩:=hv.cons;have r:G=[]:=by have:=g2.1;simpa using this
  subst r;obtain⟨m,i,U,g3⟩:=bC S (iN c1) g1.2;obtain rfl:xs=#[.pointer _]:=by apply Iv.1;rw[Z,g3]
  have t:=h.ok.boxes b Y S;unfold e7 at t;rw[c2] at t;obtain⟨afl,anx,z,tid,fr,a1,a2,a3,a4,a5⟩:=t;rw[U] at a1;obtain⟨rfl,rfl⟩:=b9 (aU a1);have H:tid=T:=by grind
  subst H;rw[A] at a5;obtain⟨cs1,cs2,e1,e2,e3⟩:=a5;obtain⟨cs3,cs4,e4,e5,e6⟩:=e3;obtain⟨⟨p,rfl,hp1⟩,hp2⟩:=e2;obtain⟨⟨q,rfl,hq1⟩,hq2⟩:=e5;obtain rfl:cs4=[]:=e6;have I:z=#[p,q]:=by apply Iv.1;rw[e1,e4];rfl
  subst I;obtain⟨e',n',k1,k2,k3⟩:=bC Q (iN d1) hq2;rw[Box.ec d2 hhv] at k2;obtain⟨rfl,rfl⟩:=b9 (aU k2);have L:=h.ok.boxes hh hx Q;unfold e7 at L;rw[d2] at L;obtain⟨e3,l3,q1,q2,J⟩:=L;rw[hhv] at q1;cases q1;have hlen:(br l).length=l.length:=by simp[br]
  let hx':Box:={ hx with val:=.data (.slice<|.int .u8) ([]),aY:=hx.aY+1 }
  have key:∃og,(∀k,og=aa k->∃c,γ.loc hh=aa (k,c))/\l.length<=maxLen /\
    ((og=af/\q=.slice af 0 0/\br l=[])\/∃(g i:Nat) (z:Array Value) (fr':Nat×Nat),og=aa g/\q=.slice (aa ⟨g,0,af⟩) (br l).length i/\w.heap[g]?=aa (.cells z E fr')/\(br l).length<=i/\i<=maxLen/\z.size=i/\∀(j:Nat) x,(br l)[j]?=aa x->z[j]?=aa (Value.int .u8 x.toNat)):=by
   rcases k3 with ⟨k3,k4⟩|⟨g,M,k3,k4⟩
   .rcases J with ⟨_,J⟩|⟨_,_,_,_,_,J,_⟩
    .subst J;exact⟨af,Ak,qh _,.inl ⟨rfl,D4 k4,rfl⟩⟩
    .grind
   .rcases J with ⟨J,_⟩|⟨g',ar1,O,aqG,frg,J,q4,q5,q6,q7,q8,q9,q10⟩
    .grind
    .rw[k3] at J;obtain⟨rfl,rfl⟩:=b9 (aU J);have htg:aqG=E:=by
      grind
     subst htg;have W:(Ty.int IntKind.u8).size=1:=rfl;have q7':l.length<=M:=q7;refine⟨aa g,λk X=>⟨M,by rw[k3,aU X]⟩,gS q7' q8,.inr ⟨g,M,O,frg,rfl,?_,q4,ai,q8,by rw[q9,W,Pq],λj x hj=>?_⟩⟩
     .rw[hlen];exact D4 k4
     .simp only[br,B7,Ho] at hj;obtain⟨y,hy,rfl⟩:=hj;obtain⟨r1,r2,r3⟩:=q10 j y hy;rw[W,Pq] at r1;have aqH:(IntKind.u8).min=0:=aI;have alc:(IntKind.u8).max=255:=aI;have ar2:O.toList[j]?=aa (.int .u8 y):=by
       have:((O.toList.drop j).take 1)[0]?=aa (.int .u8 y):=by rw[r1];rfl
       grind
      simp_all;omega
  obtain⟨og,hog,hlm,X⟩:=key;refine⟨hs.1,(hs.2 w m p q fr _ og a2 X).mono λe w' D=>?_⟩;obtain⟨rfl,D⟩:=D;refine⟨_,rfl,?_⟩;have aqI:yh B w w':=⟨D.os,D.tape,D.output,D.size,λk X=>by
   rcases xy k w.heap.size with hlt|hge
   .refine D.block k hlt λe=>X ?_;obtain⟨c,hc⟩:=hog k e;exact(h.ok.fresh hh k c (by rw[Q];simp) hc).1
   .exact absurd (.inl<|gS h.ok.base hge) X⟩
  have aqJ:e7 (bT γ hh af) (dh σ.mem hh hx') w' hh hx':=by
   unfold e7;rw[show hx'.buf=true from d2];exact⟨.int .u8,[],rfl,q2,.inl ⟨by simp[bT],rfl⟩⟩
  obtain⟨m1,m2⟩:=h.ok.drop Q (Yf _) aqI (λk X hn=>D.block k X λe=>by obtain⟨c,hc⟩:=hog k e;exact hn c hc) D.cell aqJ;refine hK _ _ w' (h.bF m2 m1 hd ⟨[.string ⟨(br l).toArray⟩],⟨rfl,by rw[hlen];exact hlm⟩,rfl⟩) ?_
  .cases d<;>exact m2
 .cases C
def V5(p:sn P B.G cx)(U:zG P B.G inl){f m E}(h:dz B N γ σ a w)(V:∀k,d=aa k->k<N)(W:nH γ σ.mem w m E.toList)
  (j:(Au cx inl d f m σ).run=aa bb) {K} (R:I8 B N γ σ a w d bb K) : (∃F q,P.funcs[f]?=aa F/\(F.name == "runtime.NumGoroutine")=false/\F.body=aa q)/\Calls P f E w λe w'=>∃v,e=.returned v/\K (a.put d v) w':=by
 unfold Au at j;split at j
 .rename_i c X;have S:=p.con f c X;refine⟨S.body,?_⟩;split at j;{rename_i H;split at j;{rename_i x Y;obtain⟨y,Z,l⟩:=ck j;obtain rfl:=aU l;refine(S.calls _ w E x y (λb o t=>t) h.ok.VU (SV (I':=λb o=>b<w.heap.size) h.ok (λb o i=>h.ok.xd b o i) (λb o _ t=>t) W Y) Z).mono λe w' J=>?_;obtain⟨v,I',L,C,M,T,h5,h6⟩:=J;refine⟨v,L,?_⟩;obtain⟨m1,D⟩:=h.ok.far (I':=γ.I) C (λ_ _ i=>i) (λb o i=>Hq (h.ok.xd b o i) C.size) (λb o i hn=>absurd i hn);refine R γ _ w' (h.bF D m1 V<|h6.flat H) ?_;cases d<;>exact D};exact absurd j ch}
  split at j;{rename_i x b4 Y;obtain⟨y,Z,l⟩:=ck j;obtain rfl:=aU l;obtain⟨γ1,s1,s2,s3⟩:=ve h W Y;refine(S.calls γ1.I w E x y (λb o i=>s1.ok.xd b o i) s1.ok.VU s3 Z).mono λe w' J=>?_;obtain⟨v,I',L,C,M,T,h5,h6⟩:=J;refine⟨v,L,?_⟩;obtain⟨m1,D⟩:=s1.ok.far (I':=I') C M T h5;refine R ⟨I',γ1.loc⟩ _ w' (s1.bF D m1 V<|h6.rep λ_ _ i=>i) ?_;cases d<;>exact s2.trans D}
  .exact absurd j ch
 .rename_i X;have apU:((inl f m σ).bind λr=>.ret (r.2.bF d r.1):Tree St).run=aa bb->(∃F q,P.funcs[f]?=aa F/\(F.name == "runtime.NumGoroutine")=false/\F.body=aa q)/\Calls P f E w λe w'=>∃v,e=.returned v/\K (a.put d v) w':=by
   intro j;obtain⟨r,hr1,l⟩:=bind_some j;obtain rfl:=aU l;obtain⟨v0,sN⟩:=r;obtain⟨t,hsl,z⟩:=U B γ σ sN w f m E v0 rfl h.ok W hr1;refine⟨t,z.mono λe w' J=>?_⟩;obtain⟨v,bM,L,C,M,T⟩:=J;refine⟨v,L,?_⟩;have hs0:sN={ bw:=σ.bw,mem:=sN.mem }:=by cases sN;subst hsl;rfl
   rw[hs0] at R;refine R bM _ w' (h.bF M C V T) ?_;cases d<;>exact M
  split at j
  .rename_i s hcs;exact SX (p.XY f s hcs) h V W j R
  split at j
  .rename_i c hcr;split at j
   .rename_i x u ns Y;obtain⟨y,Z,l⟩:=ck j;obtain rfl:=aU l;have S:=p.ah6 f c hcr;obtain⟨bs,g1,g2,g3⟩:=SW h.ok W Y;have O:∀A∈bs,∀o,¬γ.I A o:=λA t o i=>by
     obtain⟨b,bx,k,j1,j2,j3,j4⟩:=g2.P1 A t;have:=(h.ok.sep b bx A k o j2 j4 i).1
     grind
    refine⟨S.body,(S.calls γ.I w E bs x u y (λb o i=>h.ok.xd b o i) h.ok.VU (λb Q g t=>by
     obtain⟨n,bx,k,j1,j2,j3,j4⟩:=g2.P1 b t;exact(h.ok.dk b Q g).1 (h.ok.fresh n b k (by rw[j2];simp) j4).1) g1 g3 (g2.nodup h.ok) O Z).mono λe w' J=>?_⟩
    obtain⟨v,I',L,C,M,T,h5,h6,h7⟩:=J;refine⟨v,L,?_⟩;obtain⟨m1,D⟩:=h.ok.refs g2 C M T h5 h7;refine R ⟨I',γ.loc⟩ _ w' (by exact h.bF D m1 V<|h6.rep λ_ _ i=>i) ?_;cases d<;>exact D
   .grind
  .grind
def bP.abF{mem w'}(h:bP B γ mem w){b wE e U L X I' v}
  (K:∀k,X k->∃g c,mem b=aa g/\g.ro=false/\γ.loc b=aa (k,c)) (p:l8 w γ.I X w' I') (u:zF w' I' e U L v) (S:∀f c,L=aa (f,c)->X f\/w.heap.size<=f) (V:∀g,mem b=aa g->g.aY<wE.aY\/(g.aY=wE.aY/\L=γ.loc b/\wE.buf=g.buf/\wE.row=g.row)) (W:wE.val=.data (.slice e) U) (Y:wE.buf=true) (Z:wE.tid=0) (he:0<e.size) : let bM:Gh:=⟨I',λi=>if i=b then L else γ.loc i⟩
  bP B bM (dh mem b wE) w'/\Ext B γ mem w bM (dh mem b wE) w':=by
 intro bM;have m:∀k,k<w.heap.size->¬X k->w'.heap[k]?=w.heap[k]?:=λk s M=>p.below.block k λq=>by rcases q with q|q;{grind};grind
 have z:∀k,X k->∀o,¬γ.I k o:=λk s o y=>by obtain⟨g,c,n,r,O⟩:=K k s;have:=(h.sep b g k c o n O y).1;grind
 have E:∀k,¬B.has k->k<w.heap.size:=λk s=>Ye λq=>s (.inl<|gS h.base q);have A:∀k,X k->B.has k/\k<w.heap.size:=λk s=>by obtain⟨g,c,n,r,O⟩:=K k s;exact h.fresh b k c (by rw[n];simp) O
 have hx:Ext B γ mem w bM (dh mem b wE) w' :=
  { below:=⟨p.below.os,p.below.tape,p.below.output,p.below.size,λk s=>m k (E k s) λM=>s (A k M).1⟩
    I:=p.held
    s9:=λb o x=>by
     by_cases y:γ.I b o
     .grind
     .exact .inr (.inl<|gS h.base<|p.s9 b o x y)
    cells:=λb o y=>dC (m b (h.xd b o y) λM=>z b M o y)
    boxes:=λc cx j=>by
     by_cases l:c=b
     .subst l;refine⟨wE,bK _ _,?_,λF=>?_⟩
      .grind
      .grind
     .exact⟨cx,by rw[bh _ l];exact j,b8 _,λ_=>⟨by simp[bM,l],rfl,rfl⟩⟩ }
 have atc:∀f c,L=aa (f,c)->f<w'.heap.size/\∀o,¬I' f o:=λf c G=>by
  rcases u with ⟨q,_⟩|⟨H,cap,cur,tid,fr,q1,q2,q3,q4,q5,q6,q7,q8,q9⟩
  .grind
  .grind
 have C:∀{c d:Nat},c≠b->dh mem b wE c≠af->mem c≠none:=λj Q=>by rwa [bh _ j] at Q
 have R:∀{d f k c},d≠b->mem d≠af->L=aa _->γ.loc d=aa _->False:=λ{d f k c} hd Q G r=>by
  rcases S f k G with t|t
  .obtain⟨g,c0,j1,j2,T⟩:=K f t;exact hd (h.inj d b f c c0 Q (by rw[j1];simp) r T)
  .have:=(h.fresh d f c Q r).2;omega
 refine⟨?_,hx⟩;exact
  { dk:=h.IP hx
    base:=gS h.base p.below.size
    boxes:=λc cx j=>by
     by_cases l:c=b
     .subst l;rw[bK] at j;unfold e7;rcases u with ⟨q1,q2,q3⟩|⟨H,cap,cur,tid,fr,q1,q2,q3,q4,q5,q6,q7,q8,q9⟩
      .grind
      .grind
     .rw[bh _ l] at j;refine(h.boxes c cx j).keep hx (by simp[bM,l]) λf k G=>m f (h.fresh c f k (by rw[j];simp) G).2 λt=>?_;obtain⟨g,c0,j1,j2,T⟩:=K f t;exact l (h.inj c b f k c0 (by rw[j];simp) (by rw[j1];simp) G T)
    inj:=λc d f k k' j hd n r=>by
     by_cases l:c=b
     .by_cases F:d=b
      .grind
      .exfalso;simp only[bM] at n;simp only[bM,aK F] at r;simp_all
     .by_cases F:d=b
      .exfalso;simp only[bM] at n;simp only[bM] at r;simp_all
      .simp only[bM,aK l] at n;simp only[bM,aK F] at r;exact h.inj c d f k k' (C (d:=0) l j) (C (d:=0) F hd) n r
    fresh:=λc f k j n=>by
     by_cases l:c=b
     .grind
     .simp only[bM,aK l] at n;have:=h.fresh c f k (C (d:=0) l j) n;exact⟨this.1,Hq this.2 p.below.size⟩
    xd:=p.xd
    sep:=λc cx f k D j n y=>by
     by_cases l:c=b
     .grind
     .simp only[bM,aK l] at n;rw[bh _ l] at j;by_cases J:γ.I f D
      .exact h.sep c cx f k D j n J
      .have O:=p.s9 f D y J;have r:=(h.fresh c f k (by rw[j];simp) n).2;omega }
def zF.rep{I loc mem w e l L v b aY bx}(h:zF w I e l L v)
  (f:loc b=L) (p:mem b=aa bx) (g:bx.aY=aY) (c:bx.buf=true) (i:bx.val=.data (.slice e) l):cK ⟨I,loc⟩ mem w (.whole b aY) .val [v]:=by
 rcases h with ⟨k,m,n⟩|⟨j,o,q,tid,r,k,m,n,s,t,u,x,y,z⟩
 .exact⟨⟨v,rfl,by rw[n];rfl⟩,gI p g ⟨e,l.length,c,Box.ec c i,.inl ⟨by rw[<-k];exact f,by rw[n]⟩⟩⟩
 .exact⟨⟨v,rfl,by rw[m];rfl⟩,gI p g ⟨e,l.length,c,Box.ec c i,.inr ⟨j,o,by rw[<-k];exact f,by rw[m]⟩⟩⟩
def aix{mem}(h:bP B γ mem w){b aY i}{e:Ty}{l:List e.den}{v}(u:mem b=aa i)(m:i.aY=aY)(f:i.buf=true)(D:i.ro=false)(g:i.val=.data (.slice e) l)
  (E:cK γ mem w (.whole b aY) .val [v]):zF w γ.I e l (γ.loc b) v/\0<e.size:=by
 obtain⟨O,n,Q,A,c⟩:=bC u m E.2;rw[Box.ec f g] at A;obtain⟨rfl,rfl⟩:=b9 (aU A);have j:=h.boxes b i u;unfold e7 at j;rw[f] at j;obtain⟨R,S,C,F,k⟩:=j;rw[g] at C;cases C;refine⟨?_,F⟩;rcases k with ⟨k,x⟩|⟨p,q,y,tid,G,k,x,H,T,J,K,L,z⟩
 .rcases c with ⟨c,r⟩|⟨s,t,c,r⟩;{exact .inl ⟨c,x,D4 r⟩}
  .grind
 .rcases c with ⟨c,r⟩|⟨s,t,c,r⟩;{grind};rw[k] at c;obtain⟨rfl,rfl⟩:=b9 (aU c);refine .inr ⟨p,q,y,tid,G,k,D4 r,x,H,J,K,L,λo M=>?_,z⟩;have:=(h.sep b i p q o u k M).1;grind
def vS{e v b aY i l}(h:Cf e σ v=aa (b,aY,i,l)):σ.mem b=aa i/\i.aY=aY/\i.buf=true/\i.lk=false/\i.ro=false/\i.tid=0 /\
  ∃k:List e.den,i.val=.data (.slice e) k/\((v=.whole b aY/\l=k)\/∃n,v=.part b aY 0 n/\l=sub k 0 n):=by
 unfold Cf at h;split at h
 .rename_i r g;split at h;{rename_i c p;cases f:(Nat.beq c.aY g&&c.buf&&!c.lk&&!c.ro&&Nat.beq c.tid 0) with|false=>rw[f] at h;cases h|true =>rw[f] at h;split at h;{rename_i u k j;split at h;{rename_i s m;obtain⟨q,o⟩:=mE m;subst q;subst o;simp_all};cases h};cases h}
  .cases h
 .rename_i r g t n;split at h
  .rename_i c p;cases f:(Nat.beq c.aY g&&c.buf&&!c.lk&&!c.ro&&Nat.beq c.tid 0&&decide (t=0)) with
   | false=>rw[f] at h;cases h
   | true =>
     rw[f] at h;simp only[gC,Hr,zn] at f;split at h
     .rename_i u k j;split at h
      .rename_i s m;obtain⟨q,o⟩:=mE m;subst q;subst o;cases h;have x:=f.2;subst x;exact⟨p,iN f.1.1.1.1.1,f.1.1.1.1.2,f.1.1.1.2,f.1.1.2,iN f.1.2,_,j,.inr ⟨n,rfl,rfl⟩⟩
      .cases h
     .cases h
  .cases h
 .cases h
def abG{mem}(h:bP B γ mem w){b aY m}{e:Ty}{l:List e.den}{n v}(z:mem b=aa m)(r:m.aY=aY)(c:m.buf=true)(J:m.ro=false)(f:m.val=.data (.slice e) l)
  (K:cK γ mem w (.part b aY 0 n) .val [v]):zF w γ.I e (sub l 0 n) (γ.loc b) v/\0<e.size:=by
 obtain⟨V,k,D,W,X,Y,E,g,u,Z,k8,L,k9⟩:=bC z r K.2;rw[Box.ec c f] at D;obtain⟨rfl,rfl⟩:=b9 (aU D);have p:=h.boxes b m z;unfold e7 at p;rw[c] at p;obtain⟨e3,l3,F,M,j⟩:=p;rw[f] at F;cases F;refine⟨?_,M⟩;obtain u:=D4 u;have hlen:(sub l 0 n).length=n.toNat:=by simp only[sub,cY,qo];omega
 rcases L.2 rfl c with ⟨s,rfl,rfl⟩|⟨q,s,rfl⟩
 .rcases j with ⟨j,y⟩|⟨q,A,t,tid,G,j,_⟩;{subst y;have:n.toNat=0:=ai;exact .inl ⟨s,by simp[sub],by rw[u,this]⟩}
  .grind
 .rcases j with ⟨j,y⟩|⟨H,A,t,tid,G,j,y,O,q6,q7,Q,R,C⟩;{grind};rw[s] at j;obtain⟨rfl,rfl⟩:=b9 (aU j);refine .inr ⟨q,g,t,tid,G,s,by rw[hlen];exact u,y,O,ai,Q,R,λo S=>?_,λi x T=>C i x ?_⟩;{have:=(h.sep b m q g o z s S).1;grind};have U:((l.drop (0:Int).toNat).take n.toNat)[i]?=aa x:=T;grind
def UC{e v b aY q l val}(k:bP B γ σ.mem w)(h:Cf e σ v=aa (b,aY,q,l))(m:cK γ σ.mem w v .val [val]):zF w γ.I e l (γ.loc b) val/\0<e.size:=by
 obtain⟨o,c,f,r,j,p,s,g,i⟩:=vS h;rcases i with ⟨rfl,rfl⟩|⟨n,rfl,rfl⟩
 {exact aix k o c f j g m};exact abG k o c f j g m
def zH{f s}(h:As cx bf d f=aa s):find cx.XY f=aa s:=by unfold As at h;grind
def Nu{f e i s}(E:e8 P f (.clone e))(h:dz B N γ σ a w)(H:∀k,d=aa k->k<N)(J:nH γ σ.mem w i s.toList)
  (g:(nd nb e d i σ).run=aa bb) {K} (M:I8 B N γ σ a w d bb K) : (∃t m,P.funcs[f]?=aa t/\(t.name == "runtime.NumGoroutine")=false/\t.body=aa m)/\Calls P f s w λe w'=>∃v,e=.returned v/\K (a.put d v) w':=by
 unfold nd at g;split at g
 case h_2=>cases g
 rename_i k x;split at g
 case h_2=>cases g
 rename_i l b4 O;obtain⟨Q,g⟩:=aD g;obtain⟨n,g⟩:=cL g;obtain⟨aY,p,u⟩:=ef g;obtain rfl:=aU u;obtain⟨R,r,y,S,T⟩:=J.cons;have j:r=[]:=by have:=T.1;simpa using this
 subst j;obtain⟨z,A,U,V,W,X⟩:=oD h S O;refine⟨E.1,(E.2 z.I w s l (λb o Y=>A.ok.xd b o Y) ⟨V,[],by rw[y,X],W,rfl⟩ n).mono λq w' Z=>?_⟩;obtain⟨v,I',L,rfl,h1,F,h3⟩:=Z;refine⟨v,rfl,?_⟩;obtain⟨m1,G⟩:=A.ok.abF (wE:={ val:=.data _ l,tid:=0,buf:=true,ro:=false,lk:=false,aY }) (λ_ hf=>hf.elim) h1 F (λC c hl=>.inr (h3 C c hl))
  (λD h0=>.inl (p D h0)) rfl rfl rfl (by simpa using Q)
 exact M _ _ w' (A.step G m1 (H k rfl)<|F.rep aW (bK _ _) rfl rfl rfl) (U.trans G)
def SY{f e A res spec m R}(hs:e8 P f (.own e A res spec))(h:dz B N γ σ a w)(hd:∀k,d=aa k->k<N)(hv:nH γ σ.mem w m R.toList)
  (i:(u9 e A res spec d m σ).run=aa bb) {K} (hK:I8 B N γ σ a w d bb K) : (∃S z,P.funcs[f]?=aa S/\(S.name == "runtime.NumGoroutine")=false/\S.body=aa z)/\Calls P f R w λe w'=>∃v,e=.returned v/\K (a.put d v) w':=by
 unfold u9 at i;split at i
 case h_2=>cases i
 rename_i v0 vs;split at i
 case h_2=>cases i
 rename_i x b4 hg;split at i
 case h_2=>cases i
 rename_i b T C l D;obtain⟨E,r,i⟩:=ck i;obtain⟨U,F,g,hlk,V,p,l0,G,s⟩:=vS D;obtain⟨W,H,X,g1,g2⟩:=hv.cons;obtain⟨t,y,Y,u⟩:=ve h g2 hg;obtain⟨J,he⟩:=UC y.ok D (g1.ext Y);refine⟨hs.1,(hs.2 t.I w R W H l E _ x (λb o hi=>y.ok.xd b o hi) X J u r).mono λq w' hw=>?_⟩;obtain⟨I',h1,h2⟩:=hw;have hX:∀k,(∃c,t.loc b=aa _)->∃j c,b4.mem b=aa j/\j.ro=false/\t.loc b=aa (k,c):=λk ⟨c,hc⟩=>⟨C,c,U,V,hc⟩;cases res with
 | true =>
   cases d with
   | none=>cases i
   | some k =>
     obtain rfl:=aU i;obtain⟨v',L',rfl,Q,h4⟩:=h2;refine⟨v',rfl,?_⟩;obtain⟨m1,L⟩:=y.ok.abF (b:=b) (wE:={ C with val:=.data (.slice e) E,aY:=T+1 }) hX h1 Q h4 (λj M=>by
      rw[U] at M;obtain rfl:=aU M;exact .inl (by simp[F])) rfl g p he
     exact hK _ _ w' (y.step L m1 (hd k rfl)<|Q.rep aW (bK _ _) rfl g rfl) (Y.trans L)
 | false =>
   have Z:Oq v0=true/\bb=(b4.cd b { C with val:=.data (.slice e) E }).bF d (.D0 .nl):=by
    cases d with
    | none=>obtain⟨q1,q2⟩:=aD i;exact⟨q1,(aU q2).symm⟩
    | some k=>obtain⟨q1,q2⟩:=aD i;exact⟨q1,(aU q2).symm⟩
   obtain⟨hwh,rfl⟩:=Z;obtain rfl:l=l0:=by
    rcases s with ⟨_,q⟩|⟨n,rfl,_⟩
    .exact q
    .cases hwh
   obtain⟨rfl,O,Q⟩:=h2;refine⟨_,rfl,?_⟩;obtain⟨m1,L⟩:=y.ok.abF (wE:={ C with val:=.data (.slice e) E }) hX h1 Q (λblk c hl=>.inl ⟨c,hl⟩) (λj M=>by
    rw[U] at M;obtain rfl:=aU M;exact .inr ⟨rfl,rfl,rfl,by rw[Box.ec g G,Box.ec (bx:={ C with val:=.data (.slice e) E }) g rfl,O]⟩) rfl g p he
   refine hK _ _ w' (y.bF L m1 hd ⟨#[],rfl,rfl⟩) ?_;cases d<;>exact Y.trans L
def SZ(b:sn P B.G cx)(g:zG P B.G inl){f c q}(h:dz B N γ σ a w)(l:∀k,d=aa k->k<N)(m:nH γ σ.mem w c q.toList)
  (i:(xz cx nb bf inl d f c σ).run=aa bb) {K} (n:I8 B N γ σ a w d bb K) : (∃o j,P.funcs[f]?=aa o/\(o.name == "runtime.NumGoroutine")=false/\o.body=aa j)/\Calls P f q w λe w'=>∃v,e=.returned v/\K (a.put d v) w':=by
 unfold xz at i;split at i
 .rename_i e p;exact Nu (b.XY f _<|zH p) h l m i n
 .rename_i e A r s p;exact SY (b.XY f _<|zH p) h l m i n
 .exact V5 b g h l m i n
def P2{o}{f:Nat}{g K Q}(i:(execOp a.eval o).run P w=(callFunc f g).run P w)
  (h:(∃c b,P.funcs[f]?=aa c/\(c.name == "runtime.NumGoroutine")=false/\c.body=aa b)/\Calls P f g w λe w'=>∃v,e=.returned v/\K (a.put o.dst v) w'):o.wp P a w K Q:=by
 obtain⟨⟨c,b,j,k,l⟩,m⟩:=h;unfold Oper.wp;rw[i,V4 j k l];refine m.mono λe w' n=>?_
 grind
def YK(K:fM P cx){t X:TypeId}{v x n}(L:bP B γ σ.mem w)(A:cK γ σ.mem w v .val [x])(p:ad1 (find cx.T t) v=true)(f:lenOf σ v=aa n) :
  (Builtin.len_ #[t] X #[x]).run P w=.ok (goInt n) w/\IntKind.i64.min<=n/\n<=IntKind.i64.max:=by
 have Y:maxLen<=IntKind.i64.max:=aI;have Z:IntKind.i64.min<=0:=aI;have h:∀{base m c},(∃e,find cx.T t=aa (.slice e))->x=.slice base m c->n=m->m<=maxLen->(Builtin.len_ #[t] X #[x]).run P w=.ok (goInt n) w/\IntKind.i64.min<=n/\n<=IntKind.i64.max:=by intro base m c M hx hn L;obtain⟨e,M⟩:=M;obtain⟨O,Q,_⟩:=(K.T _ _ M).slice;subst hx;subst hn;refine⟨?_,ai,ai⟩;simp[Builtin.len_,run_underlying Q]
 have i:∀{o:Option Ty},(match o with|some (.slice _)=>true|_=>false)=true->∃e,o=aa (.slice e):=by grind
 cases v with|data u y =>(cases u with|str =>(obtain⟨rfl,C⟩:=Av A;obtain rfl:=aU f;have e1:(⟨List.toArray y⟩:ByteArray).size=List.length y:=by show(List.toArray y).size=_;grind);refine⟨?_,?_,?_⟩;{simp only[Builtin.len_];simp[run_underlying<|(K.T _ _<|jB p).str,e1,len]};{simp only[len];omega};simp only[len];omega|slice e =>(obtain rfl:=aU f;obtain⟨cs,D,C⟩:=et.1 A;rcases D with ⟨⟨_,D⟩,R⟩|⟨E,off,q,D,R,h4,_⟩;{rw[D] at C;exact h ⟨e,jB p⟩ C (by rw[R];rfl) (qh _)};rw[D] at C;exact h ⟨e,jB p⟩ C rfl (gS R h4))|arr m e =>(obtain⟨O,Q,_⟩:=(K.T _ _<|jB p).arr;simp only[lenOf] at f;cases j:Nat.ble m 4294967296 with|false=>rw[j] at f;cases f|true =>rw[j] at f;obtain rfl:=aU f;have:=M7 j;have h9:4294967296<=IntKind.i64.max:=aI;refine⟨by simp[Builtin.len_,run_underlying Q],ai,ai⟩)|_=>cases f)|qq =>(obtain rfl:=aU f;obtain rfl:x=_:=by simpa [cK] using A);exact h (i p) rfl rfl (qh _)|whole b aY =>simp only[lenOf] at f;split at f;{rename_i F j;cases g:(Nat.beq F.aY aY&&F.buf) with|false=>rw[g] at f;cases f|true =>rw[g] at f;simp only[gC] at g;split at f;{rename_i u l r;obtain rfl:=aU f;obtain⟨e',k,S,U,G⟩:=bC j (iN g.1) A.2;rw[Box.ec S r] at U;obtain⟨rfl,rfl⟩:=b9 (aU U);rcases G with ⟨G,H⟩|⟨E,q,G,H⟩;{have I:=L.boxes b F j;rw[e7,S] at I;obtain⟨e3,l3,V,q2,z⟩:=I;rw[r] at V;cases V;rcases z with ⟨_,z⟩|⟨E,q,W,tid,fr,z,_⟩;{exact h (i p) (D4 H) (by rw[z];rfl) (qh _)};grind};obtain⟨W,tid,fr,V,q2,z,q4,_⟩:=((L.boxes b F j).row G).1 _ l S r;exact h (i p) (D4 H) rfl (gS z q4)};cases f};cases f|part b aY lo n' =>(simp only[lenOf] at f;cases s:live σ b aY with|false=>rw[s] at f;cases f|true =>rw[s] at f;obtain rfl:=aU f;obtain⟨F,j,J⟩:=ld s;obtain⟨e',k,U,G,H,g5,base,q,g6,g7,g8,gF,g9⟩:=bC j J A.2;exact h (i p) (D4 g6) (ahH H).symm (gS g7 g8))|_=>cases f
def fj.take{w I e l cs}(h:fj w I e l cs) k:fj w I e (l.take k) (cs.take<|k*e.size):=by
 intro i x b;rw[kh] at b;split at b
 {rename_i c;have f:_*e.size<=k*e.size:=hL _ c;rw[Dq] at f;rw[adW,GH,yo ai];exact h i x b};cases b
def fj.drop{w I e l cs}(h:fj w I e l cs) k:fj w I e (l.drop k) (cs.drop<|k*e.size):=by intro i x b;rw[xw] at b;rw[Ap,<-iO];exact h _ x b
def Mm{α}{l m:List α}{b:Int}(c:0<=b)(h:b+m.length<=l.length):(over l b m).length=l.length:=by simp only[over,gR,cY,qo];omega
def fj.over{w I e l m cs news}{lo:Int}(h:fj w I e l cs)(n:fj w I e m news)(f:news.length=m.length*e.size)(s:0<=lo)
  (t:lo+m.length<=l.length) (u:l.length*e.size<=cs.length):fj w I e (over l lo m) (bk cs (lo.toNat*e.size) news):=by
 have o:(lo.toNat+m.length)*e.size<=l.length*e.size:=hL _ ai;rw[iO] at o;have k:=(h.take lo.toNat).append (rest:=[]) n (by rw[cY,cY,yo ai,yo ai]) f;rw[zo] at k;have p:bk cs (lo.toNat*e.size) news=cs.take (lo.toNat*e.size)++news++cs.drop ((lo.toNat+m.length)*e.size):=by simp only[bk,f,iO]
 rw[p];intro i x g;by_cases b:(lo.toNat+m.length)*e.size+(l.length-(lo.toNat+m.length))*e.size=l.length*e.size
 .have q:fj w I e (Go.Ge.over l lo m) (cs.take (lo.toNat*e.size)++news++(cs.drop<|(lo.toNat+m.length)*e.size)):=by intro i x g;by_cases j:i<lo.toNat+m.length;{(have c:(l.take lo.toNat++m)[i]?=aa x:=by simp only[Go.Ge.over] at g;grind);rw[pt<|by rw[gR,cY,f,yo ai,<-iO];exact(hL _ j)];exact k i x c};(have c:(l.drop<|lo.toNat+m.length)[i-(lo.toNat+m.length)]?=aa x:=by simp only[Go.Ge.over] at g;grind);(have:=h.drop _ _ x c;have r:i*e.size=(cs.take (lo.toNat*e.size)++news).length+(i-(lo.toNat+m.length))*e.size:=by rw[gR,cY,f,yo ai,<-iO,<-iO];congr 1;omega);rw[r,<-Ap];grind
  exact q i x g
 .exact absurd (by rw[<-iO];congr 1;omega) b
def yy(h:dz B N γ σ a w){e m b aY q chk lo base news}
  (hr:(kZ e m b aY q chk lo σ).run=aa bb) (hE:fj w γ.I e m news) (hn:news.length=m.length*e.size) (X:∀u∈news,u.oneCell'=true) (h0:0<=lo) (Y:∀bx (l:List e.den),σ.mem b=aa bx->bx.aY=aY->bx.buf=true->bx.val=.data (.slice e) l->q=[]->lo+m.length<=l.length) (Z:∀bx k (l:List e.den),σ.mem b=aa bx->bx.aY=aY->bx.buf=false->(nav q bx.val).run=aa (.data (.arr k e) l)->chk k e=true->lo+m.length<=k) (K:m=[]\/∃g c,γ.loc b=aa (g,c)/\base=aa ⟨g,er q+lo.toNat*e.size,af⟩) : ∃w',(match base with|some ad=>storeCells ad news|none=>pure ()).run P w=.ok () w'/\dz B N γ bb a w'/\Ext B γ σ.mem w γ bb.mem w':=by
 unfold kZ at hr;split at hr
 case h_2=>cases hr
 rename_i bx hb;obtain⟨hcd,o⟩:=aD hr;simp only[gC,Hr] at hcd;obtain⟨⟨p,hlk⟩,hro⟩:=hcd;have p:=iN p;have s:=h.ok.boxes b bx hb;have G:m=[]->news=[]:=λU=>by subst U;simpa using hn
 have H:m=[]->(match base with|some ad=>storeCells ad news|none=>pure ()).run P w=.ok () w:=λU=>by rw[G U];cases base<;>rfl
 have r:∀g c f tid y,γ.loc b=aa (g,c)->w.heap[g]?=aa (.cells f tid y)->oA f y->er q+lo.toNat*e.size+news.length<=f.size ->
   (match base with|some ad=>storeCells ad news|none=>pure ()).run P w=.ok () (w.setRow g (bk f.toList (er q+lo.toNat*e.size) news).toArray):=by
  intro g c f tid y hl V hth L;rcases K with U|⟨afl,c',hl',rfl⟩
  .rw[H U,G U];simp only[bk,zo,qp,IA,Ba];rw[setRow_self w g f tid y V]
  .rw[hl] at hl';have:=dn (P:=P) g _ tid y news 0 f w V hth ai X
   grind
 split at o
 .rename_i j;split at o
  case h_2=>cases o
  rename_i u l D;split at o
  case h_2=>cases o
  rename_i E M;obtain rfl:=aU o;obtain⟨hq,O⟩:=mE M;subst hq;obtain rfl:E=m:=O;have L:=Y bx l hb p j D rfl;have hlen:=Mm h0 L;unfold e7 at s;rw[j] at s;obtain⟨e2,l2,j1,j2,j3⟩:=s;rw[D] at j1;cases j1;have Q:({ bx with val:=.data (.slice e) (over l lo E) }:Box).row=bx.row:=by
   rw[Box.ec j D];exact(Box.ec (bx:=⟨.data (.slice e) _,bx.tid,bx.buf,bx.ro,bx.lk,bx.aY⟩) j rfl).trans (by rw[hlen])
  rcases j3 with ⟨J,R⟩|⟨g,t,f,tid,y,J,R,k3,z,k4,k5,k6,k7⟩
  .subst R;have hm0:E=[]:=by
    grind
   subst hm0;have e1:σ.cd b { bx with val:=.data (.slice e) (over ([]:List e.den) lo []) }=σ:=by
    have:({ bx with val:=.data (.slice e) (over ([]) lo []) }:Box)=bx:=by
     cases bx;subst D;simp[over]
    simp only[St.cd]
    congr 1
    funext i;by_cases hi:i=b
    .grind
    .simp[kn hi]
   rw[e1];exact⟨w,H rfl,h,Ext.refl _ _ _ _⟩
  .have n:er ([])+lo.toNat*e.size+news.length<=f.size:=by
    have:(lo.toNat+E.length)*e.size<=t*e.size:=hL _ ai;rw[iO] at this;simp only[er];omega
   have hst:=r g t f tid y J R k3.th n;have v:(bk f.toList (lo.toNat*e.size) news).toArray.size=f.size:=by have:=bS (by simp only[er] at n;omega);simpa using this
   obtain⟨m1,m2⟩:=h.ok.write hb hro J R (cur':=(bk f.toList _ news).toArray) v Q
    (λw' cS W V=>by
     simp only[j];refine⟨e,_,rfl,j2,.inr ⟨g,t,_,tid,y,J,V,k3.same v,z,by rw[hlen];exact k4,k5,by rw[v];exact k6,?_⟩⟩;intro i x hx';have:=fj.over k7 hE hn h0 L (by show _<=f.size;rw[k6];exact hL _ k4) i x hx';simpa using bZ.mono W.I W.cells this)
   simp only[er,Gq] at hst;exact⟨_,hst,h.go m2 m1,m2⟩
 .rename_i j;obtain⟨old,F,S⟩:=bind_some o;split at S
  case h_2=>cases S
  rename_i k u l;obtain⟨hck,T⟩:=aD S;split at T
  case h_2=>cases T
  rename_i E M;obtain⟨c,hs,hr5⟩:=bind_some T;obtain rfl:=aU hr5;obtain⟨hq,O⟩:=mE M;subst hq;obtain rfl:E=m:=O;unfold e7 at s;rw[j] at s;obtain⟨g,t,f,tid,y,J,R,k3,z,k4⟩:=s;obtain⟨p1,p2⟩:=zD k4 F;obtain⟨r1,r2,r3⟩:=p2;have hll:lo+E.length<=(List.length l):=by rw[r1];exact(Z bx k l hb p j F hck)
  have aqK:(lo.toNat+E.length)*e.size<=k*e.size:=hL _ ai;rw[iO] at aqK;have n:er q+lo.toNat*e.size+news.length<=f.size:=by have p1':er q+k*e.size<=f.size:=p1;omega
  have A:((f.toList.drop _).take<|k*e.size).length=k*e.size:=r2;have C:lo.toNat*e.size+news.length<=((f.toList.drop<|er q).take<|k*e.size).length:=ai;have aqL:bZ w γ.I (.arr k e) (over l lo E) (bk ((f.toList.drop<|er q).take<|k*e.size) (lo.toNat*e.size) news):=by
   refine⟨(Mm h0 hll).trans r1,by rw[bS C,A],?_⟩;exact fj.over r3 hE hn h0 hll (by rw[A];exact GI (by rw[r1]))
  have Q:=Mj (by rw[j];exact hs) λhp _=>by
   subst hp;rw[Box.tc j<|aU F];exact Box.tc j rfl
  have v:(bk f.toList (er q+lo.toNat*e.size) news).toArray.size=f.size:=by have:=bS n;simpa using this
  obtain⟨m1,m2⟩:=h.ok.write hb hro J R (cur':=(bk f.toList _ news).toArray) v Q
   (λw' cS W V=>by
    simp only[j];refine⟨g,t,_,tid,y,J,V,k3.same v,z,?_⟩;have:=Ci (k4.ext W) F hs (bZ.mono W.I W.cells aqL) (by rw[bS C,A];rfl);rw[(vd f.toList _ _ (k*e.size) news ai p1)] at this;simpa using this)
  exact⟨_,(r g t f tid y J R k3 n),h.go m2 m1,m2⟩
def I9{e L t V r}(h:dz B N γ σ a w)(hv:cK γ σ.mem w t .val [V])(M:(KD e L t σ).run=aa r) :
  ∃g o,V=.slice g r.1.toNat o/\0<=r.1/\∀i,fj w γ.I e (L r.1) i->i.length=(L r.1).length*e.size->(∀u∈i,u.oneCell'=true)->(L r.1).length<=r.1.toNat ->∃w',(match g with|some ad=>storeCells ad i|none=>pure ()).run P w=.ok () w'/\dz B N γ r.2 a w'/\Ext B γ σ.mem w γ r.2.mem w':=by
 unfold KD at M;split at M
 .rename_i b G lo n;obtain⟨b4,f,H⟩:=bind_some M;obtain rfl:=aU H;have p:∃z,σ.mem b=aa z/\z.aY=G:=by unfold kZ at f;split at f;{rename_i z A;obtain⟨W,_⟩:=aD f;simp_all};cases f
  obtain⟨z,A,v⟩:=p;obtain⟨e',k,Q,R,S,g5,g,o,g6,g7,g8,gF,T⟩:=bC A v hv.2;refine⟨g,o,by simpa using g6,S,λi X Y x Z=>?_⟩;refine yy h f X Y x R (λJ l C _ s m _=>?_) (λJ k' l C _ s F _=>?_) ?_;{obtain rfl:=aU (A.symm.trans C);rw[Box.ec s m] at Q;grind};{obtain rfl:=aU (A.symm.trans C);have m:=aU F;rw[Box.tc s m] at Q;grind};rcases T with T|⟨y,c,T,g10⟩;{grind};by_cases hm:L n=[];{grind};(right;have he:e'=e:=by unfold kZ at f;rw[A] at f;obtain⟨_,j⟩:=aD f;split at j;{rename_i s;split at j;(case h_2=>cases j);rename_i u l m;split at j;(case h_2=>cases j);rename_i m' D;obtain⟨hq,_⟩:=mE D;rw[Box.ec s m] at Q;grind};rename_i s;obtain⟨old,F,E⟩:=bind_some j;split at E;(case h_2=>cases E);rename_i k' u l;obtain⟨_,K⟩:=aD E;split at K;(case h_2=>cases K);rename_i m' D;obtain⟨hq,_⟩:=mE D;have m:=aU F;rw[Box.tc s m] at Q;grind);subst he;exact⟨y,c,T,by rw[g10];simp[er]⟩
 .rename_i b G;split at M;case h_2=>cases M
  rename_i n O;obtain⟨b4,f,H⟩:=bind_some M;obtain rfl:=aU H;have p:∃z,σ.mem b=aa z/\z.aY=G:=by unfold kZ at f;split at f;{rename_i z A;obtain⟨W,_⟩:=aD f;simp_all};cases f
  obtain⟨z,A,v⟩:=p;obtain⟨e',k,g1,Q,R⟩:=bC A v hv.2;have hbx:=h.ok.boxes b z A;have hl:∃l,z.val=.data (.slice e) l/\n=l.length:=by unfold kZ at f;rw[A] at f;obtain⟨_,j⟩:=aD f;split at j;{split at j;(case h_2=>cases j);rename_i u l hq0 m;split at j;(case h_2=>cases j);rename_i m' D;obtain⟨hq,_⟩:=mE D;subst hq;refine⟨l,m,?_⟩;simp only[lenOf,A,v,g1,ah0,m] at O;exact(aU O).symm};grind
  obtain⟨l,m,rfl⟩:=hl;rw[Box.ec g1 m] at Q;obtain⟨rfl,rfl⟩:=b9 (aU Q);have fin:∀{g o},V=.slice g l.length o->(l.length=0\/∃y c,γ.loc b=aa (y,c)/\g=aa ⟨y,0,af⟩) ->
    ∃g o,V=.slice g (l.length:Int).toNat o/\0<=l.length/\∀i,fj w γ.I e (L l.length) i->i.length=(L l.length).length*e.size->(∀u∈i,u.oneCell'=true)->(L l.length).length<=(l.length:Int).toNat ->∃w',(match g with|some ad=>storeCells ad i|none=>pure ()).run P w=.ok () w'/\dz B N γ b4 a w'/\Ext B γ σ.mem w γ b4.mem w':=by
   intro g o htv hb0;refine⟨g,o,by simpa using htv,ai,λi X Y x Z=>?_⟩;refine yy h f X Y x ai (λJ l' C _ s atj _=>?_) (λJ k' l' C _ s F _=>?_) ?_
   .grind
   .grind
   .rcases hb0 with hb0|⟨y,c,q1,q2⟩
    .simp_all
    .right;exact⟨y,c,q1,by rw[q2];simp[er]⟩
  rcases R with ⟨R,S⟩|⟨y,o,R,S⟩
  .obtain S:V=_:=by simpa using S
   rw[e7] at hbx
   grind
  .grind
 .rename_i b G q u k lo n;obtain⟨b4,f,H⟩:=bind_some M;obtain rfl:=aU H;have p:∃z,σ.mem b=aa z/\z.aY=G:=by
   unfold kZ at f;split at f
   .rename_i z A;obtain⟨W,_⟩:=aD f;simp_all
   .cases f
  obtain⟨z,A,v⟩:=p;obtain⟨hq,y,c,g1,R,S,g5,g,o,g6,g7,T⟩:=bC A v hv.2;refine⟨g,o,by simpa using g6,S,λi X Y x Z=>?_⟩;refine yy h f X Y x R (λJ l C _ s m hq0=>absurd hq0 hq) (λJ k' l C _ s F U=>?_) ?_
  .simp_all;omega
  .rcases T with T|g10
   .grind
   .by_cases hm:L n=[]
    .grind
    .right;have he:u=e:=by
      unfold kZ at f;rw[A] at f;obtain⟨_,j⟩:=aD f;split at j
      .split at j
       .grind
       .cases j
      .obtain⟨old,F,E⟩:=bind_some j;split at E
       case h_2=>cases E
       obtain⟨U,K⟩:=aD E;split at K
       case h_2=>cases K
       rename_i m' D;obtain⟨hq',_⟩:=mE D;simp at U;exact(Ty.eq_of_beq U.2).trans hq'.symm
     grind
 .cases M
def P3{I e m v}(h:Ej w I e m v) n (q:n<=m.length) :
  ∃b,(Builtin.firstCells e.size n v).run P w=.ok b.toArray w/\b.length=n*e.size/\(∀u∈b,u.oneCell'=true)/\fj w I e (m.take n) b/\(Builtin.lenOf v).run P w=.ok m.length w:=by
 rcases h with ⟨rfl,g,c,k,r,s⟩|⟨t,y,c,k,r,s,z⟩
 .obtain rfl:n=0:=by simpa using q
  subst k;refine⟨[],?_,aW,λu A=>absurd A aW,λi x f=>absurd f aW,rfl⟩;cases g with|none=>rfl|some C=>exact run_firstCells_some w e.size 0 C 0 c [] aW (λj v o=>by cases o)
 .obtain⟨b,p,D,E,F⟩:=Hz (l:=m.take n) λi x f=>by rw[kh] at f;split at f;{exact z i x f};cases f
  rw[cY,yo q] at p;refine⟨b,?_,p,E,F,by rw[k];rfl⟩;rw[k];exact run_firstCells_some w e.size n _ m.length c b p (λj u o=>by rw[addr_add];exact D j u o)
def P4{I s} n (h:n<=s.length) :
  ∃e,(Builtin.firstCells 1 n<|.string ⟨s.toArray⟩).run P w=.ok e.toArray w/\e.length=n/\(∀u∈e,u.oneCell'=true)/\fj w I (.int .u8) ((aB s).take n:List Int) e/\(Builtin.lenOf<|.string ⟨s.toArray⟩).run P w=.ok (aB s).length w:=by
 refine⟨(s.take n).map λb=>Value.int .u8 b.toNat,?_,by simp[h],λu l=>?_,λi x m=>?_,?_⟩
 .simp only[Builtin.firstCells];simp_all
 .obtain⟨_,_,rfl⟩:=Bc.1 l;rfl
 .have c:((aB s).take n)[i]?=aa x:=m;rw[kh] at c;split at c
  .rename_i o;simp only[aB,B7] at c;cases g:s[i]? with
   | none=>rw[g] at c;cases c
   | some b =>
     rw[g] at c;obtain rfl:_=x:=aU c;refine⟨?_,V2 b⟩;apply Pg;intro j;rw[kh];split
     .rename_i f;obtain rfl:j=0:=by simp[Ty.size] at f;exact f
      simp[Ty.size,g,o]
     .rename_i f;obtain⟨k,rfl⟩:∃k,j=k+1:=⟨j-1,by simp[Ty.size] at f;omega⟩;simp
  .grind
 .simp[Builtin.lenOf,aB,ByteArray.size]
def Bo s:(aB s).length=s.length:=qg ..
def aiz{s n}(h:n<=(aB s).length):n<=s.length:=by rw[Bo] at h;exact h
def abH(i:bP B γ σ.mem w){e m x v}(f:cK γ σ.mem w x .val [v])(h:Ar e σ x=aa m) n (g:n<=m.length) :
  ∃b,(Builtin.firstCells e.size n v).run P w=.ok b.toArray w/\b.length=n*e.size/\(∀u∈b,u.oneCell'=true)/\fj w γ.I e (m.take n) b/\(Builtin.lenOf v).run P w=.ok m.length w:=by
 unfold Ar at h;split at h
 .rename_i t;obtain⟨q,j⟩:=mE h;subst q;subst j;obtain⟨k,_⟩:=Av f;rw[k];have c:n<=List.length t:=aiz g;obtain⟨b,l,o,p,r,s⟩:=P4 n c;exact⟨b,l,by rw[o];simp[Ty.size],p,r,s⟩
 .exact P3 (uM i f h) n g
def P5(C:fM P cx){u tx ty t x}(h:dz B N γ σ a w)(D:∀k,d=aa k->k<N)(c:(Bg cx d u (dm σ t) (dm σ x) σ).run=aa bb) :
  pr P B N γ σ a w d (Builtin.copy_ #[u,tx] ty #[a.eval t,a.eval x]) bb:=by
 unfold Bg at c;split at c
 case h_2=>cases c
 rename_i e E;split at c
 case h_1=>cases c
 rename_i m f;obtain⟨r,l,n⟩:=bind_some c;obtain rfl:=aU n;obtain⟨F,G,H,W,X⟩:=(C.T _ _ E).slice;obtain⟨g,o,I,Y,J⟩:=I9 (P:=P) h (h.dm t) l;have hlen:(kD m r.1).length=Nat.min m.length r.1.toNat:=by
  simp only[kD,cY];apply Nat.min_comm
 obtain⟨i,K,L,M,y,O⟩:=abH (P:=P) h.ok (h.dm x) f _ (Nat.min_le_left _ _);have b:(m.take<|Nat.min m.length r.1.toNat)=kD m r.1:=by
  simp only[kD]
  grind
 rw[b] at y;obtain⟨w',j,Q,R⟩:=J i y (by rw[L,hlen]) M (by rw[hlen];apply Nat.min_le_right);have z:(kD m r.1).length<=maxLen:=by
  rcases adO (kD m r.1).length with S|S
  .omega
  .rw[hlen];refine gS (Nat.min_le_left _ _) ?_;have hv:=h.dm x;unfold Ar at f;split at f
   .rename_i s U;obtain⟨q,V⟩:=mE f;subst q;subst V;rw[U] at hv;obtain⟨_,A⟩:=Av hv;exact gS (GI<|Bo s) A
   .rcases uM h.ok hv f with ⟨rfl,_⟩|⟨_,_,o,_,A,Z,_⟩
    .grind
    .grind
 refine⟨goInt (kD m r.1).length,w',γ,?_,?_,?_⟩
 .have p:=H.sizeOf w;simp only[Builtin.copy_,I];simp only[am3,am0,am1,Sem.run_bind,run_underlying G,Result.andThen_ok,O,p,K,hlen];cases g with
  | none=>injection j with _ j;subst j;rfl
  | some ad=>simp only[Sem.run_bind,j,Result.andThen_ok,Sem.run_pure]
 .have h9:maxLen<=IntKind.i64.max:=aI;have h8:IntKind.i64.min<=0:=aI;have:=Q.yu D (v:=.data (.int .i64) (len _)) (val:=goInt (kD m r.1).length) (mkInt ⟨by simp only[len];omega,by simp only[len];omega⟩)
  grind
 .cases d<;>exact R
def Nv(q:fM P cx){n ty t}(h:dz B N γ σ a w)(g:(Bh cx n (dm σ t) σ).run=aa bb) :
  pr P B N γ σ a w af (Builtin.clear_ #[n] ty #[a.eval t]) bb:=by
 unfold Bh at g;split at g
 case h_2=>cases g
 rename_i e s;obtain⟨r,k,l⟩:=bind_some g;obtain rfl:=aU l;obtain⟨v,y,A,L,C⟩:=(q.T _ _ s).slice;obtain⟨c,D,E,M,F⟩:=I9 (P:=P) h (h.dm t) k;have hlen:(oq r.1 e.zero).length=r.1.toNat:=by simp[oq]
 obtain⟨z,O,o⟩:=A.zero w;have f:=po w γ.I (.arr r.1.toNat e);have j:(Builtin.zeroCells z.cells r.1.toNat).toList=gy (.arr r.1.toNat e):=by
  have m:z.cells.size=e.size:=by rw[<-en e,<-o];simp
  rw[<-(yx o C r.1.toNat)];simp only[Builtin.zeroCells,madeCells,m]
 obtain⟨w',b,G,H⟩:=F _ (λi x J=>f.2.2 i x J) (by rw[en,hlen];rfl) (λu K=>f.one u K) (GI hlen);refine⟨.tuple #[],w',γ,?_,G,H⟩;simp only[Builtin.clear_,E];simp only[am3,am0,Sem.run_bind,run_underlying y];cases c with
 | none=>injection b with _ b;subst b;rfl
 | some Q =>
   by_cases p:r.1.toNat=0
   .have:gy (.arr r.1.toNat e)=[]:=List.eq_nil_of_length_eq_zero (by rw[en];simp[Ty.size,p]);rw[this] at b;injection b with _ b
    rw[p];simp_all
   .simp_all
def Ja{least p q r u v}(h:cK γ σ.mem w p .val [u])(i:cK γ σ.mem w q .val [v])(f:(VP least p q).run=aa r) :
  ∃z,((if least then Builtin.min2 u v else Builtin.max2 u v)).run P w=.ok z w/\cK γ σ.mem w r .val [z]:=by
 unfold VP at f;split at f
 .rename_i k n l m;obtain⟨j,g⟩:=aD f;obtain rfl:=Be j;obtain rfl:=aU g;obtain⟨rfl,c⟩:=wI h;obtain⟨rfl,e⟩:=wI i;have cmp:∀n m,k.min<=n/\n<=k.max->k.min<=m/\m<=k.max->cK γ σ.mem w (.data (.int k)<|ann n m) .val [.int k<|if m<n then m else n]/\cK γ σ.mem w (.data (.int k)<|imax n m) .val [.int k<|if m > n then m else n]:=by intro n m c e;constructor;{unfold ann;by_cases b:m<n;{simp only[b];exact mkInt e};simp only[b,decide_false,zw];exact mkInt c};unfold imax;by_cases b:n<m;{simp only[b];exact mkInt e};simp only[b];exact mkInt c
  cases least with|true=>exact⟨_,rfl,(cmp n m c e).1⟩|false=>exact⟨_,rfl,(cmp n m c e).2⟩
 .cases f
end
end Go.Ge
namespace Go.Ge
open RowKit
section
variable {P:Program} {B:DW} {N:Nat} {γ:Gh} {σ bb:St} {a:Act} {w w':World} {d:Option Nat} {cx:Ctx} {nb:Nat} {bf:List Nat} {inl:Nat->List cw->St->Tree (cw×St)}
def V6{f:Operand->cw}{l x}(h:l.map f=[x]):∃o,l=[o]/\f o=x:=by simp_all
def OB{f:Operand->cw}{l x y}(h:l.map f=[x,y]):∃o p,l=[o,p]/\f o=x/\f p=y:=by cases l with|nil=>cases h|cons o r =>obtain⟨p,b,c⟩:=V6 (by simp at h⊢;exact h.2);grind
def fO{b:Type}{a:Array b}{l}(h:a.toList=l):a=l.toArray:=by rw[<-h]
def afr{α}(k:Value->Array Value->Sem α) x b:(match(#[x]++b)[0]? with|some recv=>k recv ((#[x]++b).extract 1 (#[x]++b).size)|x=>stuck "call: a method without a receiver")=k x b.toList.toArray:=by
 have c:(#[x]++b)[0]?=aa x:=by rw[<-ahC,adM];rfl
 simp_all
def abI(O:fM P cx)(J:sn P B.G cx)(Z:zG P B.G inl){o:Oper}{c}(F:o.op=.call c)(h:dz B N γ σ a w)(L:∀k,o.dst=aa k->k<N)
  (l:(yq cx nb bf inl o.dst o.type c σ).run=aa bb) {K} {Q} (H:I8 B N γ σ a w o.dst bb K):o.wp P a w K Q:=by
 unfold yq at l;split at l
 .rename_i b g;split at l
  ·
   rename_i x t A M;obtain⟨p,m,rfl⟩:=V6 A;cases R:ad1 _ _ with
   | false =>
     rw[R] at l;simp at l;split at l
     .rename_i e b aY q u k lo n he A;obtain⟨hl,j⟩:=aD l;simp at hl;obtain rfl:=aU j;obtain⟨bx,hbx,C⟩:=ld hl.1;have hv:=h.dm p;rw[A] at hv;obtain⟨_,S,c',g1,g2,g3,g4,base,cap,g5,g6,g7⟩:=bC hbx C hv.2;refine b6 (s:=Builtin.len_ c.argTypes o.type (c.args.map a.eval)) ?_ (bU h L (x:=.int .i64 n) ?_<|mkInt ⟨Int.le_trans aI g3,Int.le_trans hl.2 aI⟩) H
      .unfold execOp;simp only[F,resolve,g,invoke,builtin];rfl
      .rw[fO m,fO M,show Array.map a.eval [p].toArray=#[a.eval p] from aW,g5];simp[Builtin.len_,run_underlying (Ck O he).1,ahH g3];rfl
     .exact absurd l ch
   | true =>
   have j:(match lenOf σ (dm σ p) with|some n=>Tree.ret (σ.bF o.dst<|.data (.int .i64) n)|none=>.fail).run=aa bb:=by rw[R] at l;exact l
   split at j
   .rename_i n hn;obtain rfl:=aU j;obtain⟨l1,l2⟩:=YK O h.ok (h.dm p) R hn;refine b6 (s:=Builtin.len_ c.argTypes o.type (c.args.map a.eval)) ?_ (bU h L ?_<|mkInt l2) H
    .unfold execOp;simp only[F,resolve,g,invoke,builtin];rfl
    .rw[fO m,fO M,show Array.map a.eval [p].toArray=#[a.eval p] from aW];exact l1
   .exact absurd j ch
  .rename_i s x t u A M;obtain⟨os,p,m,rfl,rfl⟩:=OB A;have key:(∃e,P.underlying u=aa (.slice e))\/P.underlying u=aa .string->(iP cx nb o.dst t (dm σ os) (dm σ p) σ).run=aa bb->o.wp P a w K Q:=by
    intro hk j;refine b6 (s:=Builtin.append_ c.argTypes o.type (c.args.map a.eval)) ?_ ?_ H
    .unfold execOp;simp only[F,resolve,g,invoke,builtin];rfl
    .rw[fO m,fO M,show Array.map a.eval [os,p].toArray=#[a.eval os,a.eval p] from aW];exact KR O h L hk j
   split at l
   .rename_i hu;exact key (.inr (O.T _ _ hu).str) l
   .rename_i e hu;obtain⟨eid,f1,_⟩:=(O.T _ _ hu).slice
    grind
   .exact absurd l ch
  .rename_i t x tt tx A M;obtain⟨X,p,m,rfl,rfl⟩:=OB A;have key:(Bg cx o.dst tt (dm σ X) (dm σ p) σ).run=aa bb->o.wp P a w K Q:=by
    intro j;refine b6 (s:=Builtin.copy_ c.argTypes o.type (c.args.map a.eval)) ?_ ?_ H
    .unfold execOp;simp only[F,resolve,g,invoke,builtin];rfl
    .rw[fO m,fO M,show Array.map a.eval [X,p].toArray=#[a.eval X,a.eval p] from aW];exact P5 O h L j
   split at l
   .grind
   .grind
   .exact absurd l ch
  .rename_i t tt A M;obtain⟨X,m,rfl⟩:=V6 A;split at l
   .rename_i aqN;refine b6 (s:=Builtin.clear_ c.argTypes o.type (c.args.map a.eval)) ?_ ?_ H
    .unfold execOp;simp only[F,resolve,g,invoke,builtin];rfl
    .rw[fO m,fO M,show Array.map a.eval [X].toArray=#[a.eval X] from aW,aqN];exact Nv O h l
   .exact absurd l ch
  .rename_i x y A;obtain⟨p,oy,m,rfl,rfl⟩:=OB A;obtain⟨v,Y,j⟩:=bind_some l;obtain rfl:=aU j;obtain⟨z,z1,z2⟩:=Ja (P:=P) (h.dm p) (h.dm oy) Y;refine b6 (s:=Builtin.min_ c.argTypes o.type (c.args.map a.eval)) ?_ (bU h L (x:=z) ?_ z2) H
   .unfold execOp;simp only[F,resolve,g,invoke,builtin];rfl
   .rw[fO m,show Array.map a.eval [p,oy].toArray=#[a.eval p,a.eval oy] from aW];simp at z1;simp[Builtin.min_,z1]
  .rename_i x y A;obtain⟨p,oy,m,rfl,rfl⟩:=OB A;obtain⟨v,Y,j⟩:=bind_some l;obtain rfl:=aU j;obtain⟨z,z1,z2⟩:=Ja (P:=P) (h.dm p) (h.dm oy) Y;refine b6 (s:=Builtin.max_ c.argTypes o.type (c.args.map a.eval)) ?_ (bU h L ?_ z2) H
   .unfold execOp;simp only[F,resolve,g];rfl
   .rw[fO m];simp at z1;simp[Builtin.max_,z1]
  .exact absurd l ch
 .rename_i f g;split at l
  .rename_i fid D hf;obtain⟨U,j⟩:=aD l;have hv:=h.dm f;rw[hf] at hv;obtain⟨arr,v1,v2,v3⟩:=hv;obtain v1:=D4 v1;have V:nH γ σ.mem w (D.map λb=>.ptr b.1 b.2 []) arr.toList:=by
    refine⟨by simpa using v2,λi v x W h2=>?_⟩;rw[B7] at W;cases hi:D[i]? with
    | none=>rw[hi] at W;cases W
    | some bv =>
      rw[hi] at W;obtain rfl:=aU W;have hl:=wH.1 U bv (kG hi);obtain⟨bx,Y,C⟩:=ld hl;obtain⟨S,cap,g1,g2⟩:=bC Y C (v3 i bv.1 bv.2<|by rw[hi]);have A:x=.pointer (aa ⟨S,0,af⟩):=by
       grind
      subst A;exact⟨⟨_,rfl,rfl⟩,bx,Y,GI C.symm,λ_=>⟨S,cap,g1,rfl⟩⟩
   have E:nH γ σ.mem w (c.args.toList.map (dm σ)++D.map λb=>.ptr b.1 b.2 []) (c.args.map a.eval++arr).toList:=by
    rw[adM,ahN];exact(UA h).append V
   refine P2 ?_ (SZ J Z h L E j H);unfold execOp;simp only[F,resolve,g,Deferred.ofValue,v1,invoke];simp
  .exact absurd l ch
 ·
  rename_i r name g;unfold uK at l;split at l
  .rename_i cn hcn;split at l
   .rename_i x b4 A;obtain⟨y,hy,j⟩:=ck l;obtain rfl:=aU j;have E:nH γ σ.mem w (dm σ r::c.args.toList.map (dm σ)) (a.eval r::(c.args.map a.eval).toList):=by
     rw[ahN];exact UA (ops:=r::c.args.toList) h
    obtain⟨γ1,s1,s2,s3⟩:=ve h E A;obtain⟨f,u,e1,e2,e3⟩:=J.inv name cn hcn γ1.I w _ _ x y (λb o hi=>s1.ok.xd b o hi) s1.ok.VU s3 hy;refine P2 ?_ ⟨e2,e3.mono λe w' hw=>?_⟩
    .rw[<-e1];unfold execOp;simp only[F,resolve,g];exact congrArg (λz:Sem Next=>z.run P w) (afr _ _ _)
    .obtain⟨v,I',W,h2,h3,h4,h5,h6⟩:=hw;refine⟨v,W,?_⟩;obtain⟨m1,m2⟩:=s1.ok.far (I':=I') h2 h3 h4 h5;refine H ⟨I',γ1.loc⟩ _ w' (s1.bF m2 m1 L<|h6.rep λ_ _ hi=>hi) ?_;cases o.dst<;>exact s2.trans m2
   .exact absurd l ch
  .exact absurd l ch
def YL{I tid u}:∀{t a f},Den P t tid->Ys t u=aa ⟨a,f⟩ ->
  P.concrete u=true/\∀y c,bZ w I a y c->bZ w I t (f y) [.iface u<|cX a c]:=by
 intro t;induction t with|alt n a r m e =>(intro b f i h;unfold Ys at h;obtain⟨l,o⟩:=i.rest;cases j:Nat.beq n u with|true =>(rw[j] at h;obtain rfl:=iN j;cases h;exact⟨o,λy c k=>⟨l.aij i,c,rfl,k⟩⟩)|false =>rw[j] at h;split at h;{rename_i v g p;cases h;obtain⟨q,s⟩:=e l p;exact⟨q,λy c k=>s y c k⟩};cases h)|_=>intro b f i h;cases h
def ald{tid u t a f}(c:Den P t tid)(h:Ys t u=aa ⟨a,f⟩):t.isAgg=false:=by cases t with|alt n b r=>simp only[Den,eM,gC] at c;exact(Ty.PE c.2).2|_=>cases h
def Nw(m:fM P cx){ty u x}(h:dz B N γ σ a w)(n:∀k,d=aa k->k<N)(c:(uJ cx d ty u (dm σ x) σ).run=aa bb) :
  pr P B N γ σ a w d (Instr.makeInterface u<|a.eval x) bb:=by
 unfold uJ at c;split at c
 .rename_i t o;have e:=m.T _ _ o;split at c
  .rename_i b f j;split at c
   .rename_i y b4 p;obtain rfl:=aU c;obtain⟨g,q,r,l,s,v⟩:=oD h (h.dm x) p;obtain⟨z,A⟩:=YL e j;have i:a.eval x=cX b l:=by simpa using v
    have C:=ald e j;refine⟨.iface u _,w,g,run_makeInterface w u _ z,q.yu n ⟨_,A y l s,?_⟩,?_⟩
    .rw[i];unfold cX
     grind
    .cases d<;>exact r
   .exact absurd c ch
  .exact absurd c ch
 .exact absurd c ch
def YM{o s K Q}(c:execOp a.eval o=(do s;pure .skip))(b:o.dst=af)
  (h:∃w' bM,s.run P w=.ok () w'/\dz B N bM bb a w'/\Ext B γ σ.mem w bM bb.mem w') (e:I8 B N γ σ a w o.dst bb K):o.wp P a w K Q:=by
 obtain⟨w',bM,f,g,i⟩:=h;unfold Oper.wp;rw[c];simp only[Sem.run_bind,f];exact e bM _ w' (by rw[b];exact g) i
def zI{d k}(h:ownRow bf d=aa k):d=aa k:=by unfold ownRow at h;grind
def HE{d k}(h:Yr bf d=aa k):d=aa k/\du bf k=true:=by unfold Yr at h;grind
def P6(A:fM P cx)(O:sn P B.G cx)(R:zG P B.G inl){o:Oper}(h:dz B N γ σ a w)(r:∀k,o.dst=aa k->k<N)
  (g:(sV cx nb bf inl o σ).run=aa bb) {K Q} (C:I8 B N γ σ a w o.dst bb K):o.wp P a w K Q:=by
 unfold sV at g;split at g
 case h_1 x j=>exact b6 (by simp only[execOp,j];rfl) (Bl A h r g) C
 case h_2 x j=>exact b6 (by simp only[execOp,j];rfl) (Bl A h r g) C
 case h_3 c x y j=>exact b6 (by simp only[execOp,j];simp) (PM h r g) C
 case h_4 elem j =>
  split at g
  .rename_i k t D F;rw[D] at r;refine b6 (s:=Instr.alloc elem true (.tuple #[])) (by simp only[execOp,j]) ?_ C;rw[D];exact Np A h (r k rfl) F g
  .rename_i k D F;rw[D] at r;refine b6 (s:=Instr.alloc elem true (.tuple #[])) (by simp only[execOp,j]) ?_ C;rw[D];split at g
   .rename_i fs X;exact Nn A h (r k rfl) X g
   .obtain⟨Y,m⟩:=aD g;exact Nl A h (r k rfl) Y m
  .exact absurd g ch
 case h_5 elem x j =>
  unfold IC at g;split at g
  .exact absurd g ch
  .exact absurd g ch
  .rename_i k D Y h2;rw[D] at r;refine b6 (s:=Instr.box elem (a.eval x)) (by simp only[execOp,j]) ?_ C;rw[D];split at g
   .exact SQ h (r k rfl) Y h2 g
   .exact afn h (r k rfl) Y h2 g
  .exact absurd g ch
 case h_6 t parts j =>
  refine b6 (s:=Instr.build t (parts.map λ(i,x)=>(i,a.eval x))) (by simp only[execOp,j]) ?_ C;split at g
  .rename_i u v F;split at g
   .rename_i x b4 E;obtain rfl:=aU g;exact HA A h r F E
   .exact absurd g ch
  .rename_i n e F;split at g
   .rename_i l b4 E;obtain rfl:=aU g;exact I4 A h r F E
   .exact absurd g ch
  .split at g
   .rename_i fs X;split at g
    .rename_i z0 S;split at g
     .rename_i p q E;obtain rfl:=aU g;exact Nr A h r X S E
     .rename_i u E;obtain rfl:=aU g;exact KN A h r X S E
     .exact absurd g ch
    .exact absurd g ch
   .exact absurd g ch
  .exact absurd g ch
 case h_7 t n parts j =>
  refine b6 (s:=Instr.buildSlice t n (parts.map λ(i,x)=>(i,a.eval x))) (by simp only[execOp,j]) ?_ C;split at g
  .rename_i e F;split at g
   .rename_i k T I;obtain⟨D,_⟩:=HE T;have hp:parts=#[]:=by simpa using I
    rw[D,hp];rw[D] at r;rw[Array.map_empty];exact KP A h (r k rfl) F g
   .obtain⟨Z,m⟩:=aD g;split at m
    .rename_i l b4 E;split at m
     .rename_i k D;have hk':=zI D;rw[hk'] at r⊢;exact PV A h (r k rfl) F Z E m
     .obtain rfl:=aU m;exact KO A h r F Z E
    .exact absurd m ch
  .exact SS A h r g
  .exact absurd g ch
 case h_8 t x j=>exact b6 (by simp only[execOp,j]) (PR A h r g) C
 case h_9 t x y j =>
  split at g
  .rename_i D;exact YM (by simp only[execOp,j]) D (Nk A h g) C
  .exact absurd g ch
 case h_10 x j =>
  have hv:=h.dm x;have fin:∀{v y},a.eval x=y->execOp a.eval o=(do pure<|.value (<-pure y))->cK γ σ.mem w v .val [y]->bb=σ.bF o.dst v->o.wp P a w K Q:=by
   intro v y he hs hr0 hσ;subst hσ;exact b6 hs (bU h r rfl hr0) C
  split at g
  .rename_i b aY p J;rw[J] at hv;obtain⟨hl,m⟩:=aD g;obtain⟨bx,E,U⟩:=ld hl;obtain⟨blk,cap,H,M⟩:=bC E U hv.2;have M:=D4 M;rw[M] at hv;exact fin M (by simp only[execOp,j,M];rfl) hv (aU m).symm
  .rename_i t y J;rw[J] at hv;obtain⟨blk,off,cs,H,M,g3⟩:=id hv;have H:=D4 H;rw[H] at hv;exact fin H (by simp only[execOp,j,H];rfl) hv (aU g).symm
  .rename_i f c J;rw[J] at hv;obtain⟨arr,H,M,g3⟩:=id hv;have H:=D4 H;rw[H] at hv;exact fin H (by simp only[execOp,j,H];rfl) hv (aU g).symm
  .exact absurd g ch
 case h_11 op xt x y pos j =>
  obtain⟨v,E,m⟩:=bind_some g;obtain rfl:=aU m;obtain⟨z,V,W⟩:=aby A (h.dm x) (h.dm y) E;refine b6 (s:=ia op xt x y _ _) (by simp only[execOp,j,ia]) (bU h r V W) C
 case h_12 op ty x j =>
  obtain⟨v,E,m⟩:=bind_some g;obtain rfl:=aU m;obtain⟨z,V,W⟩:=ain (h.dm x) E;exact b6 (by simp only[execOp,j]) (bU h r V W) C
 case h_13 src dst x j=>exact b6 (by simp only[execOp,j]) (I6 A h r g) C
 case h_14 f first aoO j =>
  split at g
  .rename_i cs L hcs;obtain rfl:=aU g;refine b6 ?_ (PT h r hcs) C;have:first=#[]:=by simpa using L
   simp only[execOp,j,this,show Array.map a.eval #[]=#[] from aW]
  .exact absurd g ch
 case h_15 t x lo hi j=>exact b6 (by simp only[execOp,j];rfl) (Nj A h r g) C
 case h_16 s x k j=>exact b6 (by simp only[execOp,j]) (Gu A h r g) C
 case h_17 xt x k j =>
  have hv:=h.dm x;split at g
  .rename_i u y J;rw[J] at hv;obtain⟨F,m⟩:=aD g;split at m
   .rename_i off v hf;obtain rfl:=aU m;obtain⟨z,V,W⟩:=YC A (jB F) hv hf;exact b6 (by simp only[execOp,j]) (bU h r V W) C
   .exact absurd m ch
  .exact absurd g ch
 case h_18 t x i j =>
  split at g
  .rename_i ki n hi;have hv:=h.dm i;rw[hi] at hv;obtain⟨ei,_⟩:=wI hv;refine b6 (s:=Instr.indexAt t (a.eval x) (a.eval i)) (by simp only[execOp,j]) ?_ C;rw[ei];cases hm:du bf 5000000 with
   | true=>rw[hm] at g;exact Nh A h r g
   | false=>rw[hm] at g;exact xe A h r g
  .exact absurd g ch
 case h_19 t x i j =>
  split at g
  .rename_i ki n hi;have hv:=h.dm i;rw[hi] at hv;obtain⟨ei,_⟩:=wI hv;refine b6 (s:=Instr.index t (a.eval x) (a.eval i)) (by simp only[execOp,j]) ?_ C;rw[ei];exact Ni A h r g
  .exact absurd g ch
 case h_20 t l c j =>
  split at g
  .rename_i k e kl ln kc cn D F hl hcc;rw[D] at r;obtain⟨hin,m⟩:=cL g;obtain⟨hf,hr3⟩:=cL m;refine b6 (s:=Instr.makeSlice t (a.eval l) (a.eval c)) (by simp only[execOp,j]) ?_ C;rw[D];exact Nt A h (r k rfl) F hl hcc hin hf hr3
  .exact absurd g ch
 case h_21 t k j =>
  split at g
  .rename_i vs J;split at g
   .rename_i v Z;obtain rfl:=aU g;exact b6 (by simp only[execOp,j]) (SR h r J Z) C
   .exact absurd g ch
  .exact absurd g ch
 case h_22 c j=>exact abI A O R j h r g C
 case h_23 u x j=>exact b6 (by simp only[execOp,j]) (Nw A h r g) C
 case h_24=>exact absurd g ch
end
end Go.Ge
namespace Go.Ge
open RowKit
def b5(f c:St):Prop:=∀b e,f.mem b=aa e->e.lk=true->c.mem b=aa e
def b5.refl σ:b5 σ σ:=λ_ _ h _=>h
def b5.trans{σ bb c}(h:b5 σ bb)(k:b5 bb c):b5 σ c:=λb bx f e=>k b bx (h b bx f e) e
def b5.put σ d v:b5 σ (σ.put d v):=λ_ _ h _=>h
def b5.bF σ d v:b5 σ (σ.bF d v):=by cases d<;>exact λ_ _ h _=>h
def b5.aiA{σ bb}(h:bb.mem=σ.mem):b5 σ bb:=λb e c _=>by rw[h];exact c
def jR{σ b j}(h:∀f,σ.mem b=aa f->f.lk=false):b5 σ (σ.cd b j):=λc cx g i=>by
 by_cases e:c=b
 {subst e;rw[h cx g] at i;cases i};rw[yw,bh _ e];exact g
def oF{β σ b val tid buf}{k:Nat->St->Tree β}{y}(h:(σ.bH b val tid buf k).run=aa y) :
  ∃aY,b5 σ (σ.cd b { val,tid,buf,ro:=false,lk:=false,aY })/\(k aY<|σ.cd b { val,tid,buf,ro:=false,lk:=false,aY }).run=aa y:=by
 unfold St.bH at h;split at h
 .rename_i i e;cases f:i.lk with|true=>rw[f] at h;cases h|false =>rw[f] at h;exact⟨i.aY+1,jR (λg c=>by rw[e] at c;obtain rfl:=aU c;exact f),h⟩
 .rename_i e;exact⟨0,jR (λg c=>by rw[e] at c;cases c),h⟩
def Mn{σ bb b}(h:freeze σ b=aa bb):b5 σ bb:=by
 unfold freeze at h;split at h
 {rename_i f i;cases c:f.ro with|true=>simp only[c,B9,Ph] at h;rw[<-h];apply b5.refl|false =>cases e:f.lk with|true=>simp[c,e] at h|false =>simp only[c,e,zw,Ph] at h;rw[<-h];exact jR λj g=>by rw[i] at g;obtain rfl:=aU g;exact e};cases h
def V7:∀{v σ bb},jl σ v=aa bb->b5 σ bb:=by intro v;induction v with|mix p q c e =>(intro σ bb h;obtain⟨b4,f,g⟩:=zE h;exact(c f).trans (e g))|whole b aY=>intro σ bb h;exact Mn h|part b aY lo n=>intro σ bb h;exact Mn h|_=>intro σ bb h;obtain rfl:=aU h;apply b5.refl
def so{t x v σ bb}(h:Ea σ t v=aa (x,bb)):b5 σ bb:=by
 unfold Ea at h;split at h
 {split at h;{obtain⟨_,rfl⟩:=b9 (aU h);apply b5.refl};cases h};split at h;{rename_i y b4 c b;obtain⟨_,rfl⟩:=b9 (aU h);exact V7 b};cases h
def te:∀{A x vs σ bb},l4 σ A vs=aa (x,bb)->b5 σ bb:=by intro A;induction A with|pair t r e c =>(intro x vs σ bb b;cases vs with|nil=>cases b|cons v vs =>simp only[l4] at b;split at b;{rename_i p b4 f;split at b;{rename_i q cM g;obtain⟨_,rfl⟩:=b9 (aU b);exact(so f).trans (c g)};cases b};cases b)|unit =>(intro x vs σ bb b;cases vs with|nil=>(obtain⟨_,rfl⟩:=b9 (aU b);apply b5.refl)|cons v vs=>cases b)|_=>intro x vs σ bb b;cases vs<;>cases b
def Nx{t}:∀{parts x b σ bb},gU σ t x parts=aa (b,bb)->b5 σ bb:=by intro parts;induction parts with|nil=>(intro x b σ bb h;obtain⟨_,rfl⟩:=b9 (aU h);apply b5.refl)|cons p r c =>intro x b σ bb h;simp only[gU] at h;split at h;{split at h;{rename_i e;split at h;{exact(so e).trans (c h)};cases h};cases h};cases h
def yz{e}:∀{parts l c σ bb},fJ σ e l parts=aa (c,bb)->b5 σ bb:=by intro parts;induction parts with|nil=>(intro x i σ bb h;obtain⟨_,rfl⟩:=b9 (aU h);apply b5.refl)|cons p r f =>obtain⟨k,o⟩:=p;intro l c σ bb h;simp only[fJ] at h;split at h;{rename_i g;cases b:Nat.blt k l.length with|false=>rw[b] at h;cases h|true=>rw[b] at h;exact(so g).trans (f h)};cases h
def Jb{b aY p fit u σ bb}(e:(storeAt b aY p fit u σ).run=aa bb):b5 σ bb:=by
 unfold storeAt at e;split at e;case h_2=>exact absurd e ch
 rename_i q m;obtain⟨j,f⟩:=aD e;simp at j;obtain⟨n,r,g⟩:=bind_some f;obtain⟨k,h⟩:=aD g;obtain⟨c,s,i⟩:=bind_some h;obtain rfl:=aU i;exact jR λo l=>by rw[m] at l;obtain rfl:=aU l;exact j.1.2
def V8{b aY p n u σ bb}(e:(u6 b aY p n u σ).run=aa bb):b5 σ bb:=by
 unfold u6 at e;split at e;case h_2=>exact absurd e ch
 rename_i t o;obtain⟨k,f⟩:=aD e;simp at k;obtain⟨q,v,g⟩:=bind_some f;obtain⟨l,h⟩:=aD g;obtain⟨c,x,i⟩:=bind_some h;obtain⟨r,j⟩:=aD i;obtain rfl:=aU j;exact jR λs m=>by rw[o] at m;obtain rfl:=aU m;exact k.1.1.1.2
def P7{cx bf ty x y σ bb}(e:(mY cx bf ty x y σ).run=aa bb):b5 σ bb:=by
 unfold mY at e;split at e;case h_2=>exact absurd e ch
 split at e;case h_2=>exact absurd e ch
 obtain⟨g,f⟩:=aD e;obtain⟨i,l,c⟩:=bind_some f;split at c
 .rename_i u _;obtain⟨j,b⟩:=aD c;cases h:du bf 8000000&&aib u y with|true=>rw[h] at b;exact V8 b|false=>
  rw[h] at b;split at b;{rename_i k;exact(so k).trans (Jb b)};exact absurd b ch
 obtain⟨j,b⟩:=aD c;exact Jb b
def Dv{cx nb d ty s x σ bb}(b:(iP cx nb d ty s x σ).run=aa bb):b5 σ bb:=by
 unfold iP at b;split at b;case h_2=>exact absurd b ch
 split at b;case h_2=>exact absurd b ch
 split at b
 .obtain⟨h,c⟩:=cL b;obtain⟨i,j,k⟩:=oF c;obtain rfl:=aU k;exact j.trans (b5.put _ _ _)
 .split at b;case h_2=>exact absurd b ch
  rename_i o l m p;obtain⟨e,f⟩:=Cm b;obtain⟨h,c⟩:=cL f;obtain rfl:=aU c;exact(jR λn g=>by rw[m] at g;obtain rfl:=aU g;exact((Pc.1 e).1)).trans (b5.put _ _ _)
 exact absurd b ch
def Ay{e m b aY q chk lo σ bb}(i:(kZ e m b aY q chk lo σ).run=aa bb):b5 σ bb:=by
 unfold kZ at i;split at i;case h_2=>exact absurd i ch
 rename_i r n;obtain⟨k,f⟩:=aD i;simp at k;have fin:∀{wE},b5 σ (σ.cd b wE):=λ{wE}=>jR λo l=>by rw[n] at l;obtain rfl:=aU l;exact k.1.2
 split at f
 {split at f;{split at f;{obtain rfl:=aU f;exact fin};exact absurd f ch};exact absurd f ch};obtain⟨p,_,g⟩:=bind_some f;split at g;{obtain⟨_,h⟩:=aD g;split at h;{obtain⟨c,_,j⟩:=bind_some h;obtain rfl:=aU j;exact fin};exact absurd h ch};exact absurd g ch
def Mo{e g t σ r}(b:(KD e g t σ).run=aa r):b5 σ r.2:=by
 unfold KD at b;split at b
 .obtain⟨b4,c,f⟩:=bind_some b;obtain rfl:=aU f;exact Ay c
 .split at b;{obtain⟨b4,c,f⟩:=bind_some b;obtain rfl:=aU f;exact Ay c};exact absurd b ch
 {obtain⟨b4,c,f⟩:=bind_some b;obtain rfl:=aU f;exact Ay c};exact absurd b ch
def abJ{σ}:∀{ps A U vs x u ns},u7 σ ps A U vs=aa (x,u,ns)->∀b∈ns,∀f,σ.mem b=aa f->f.lk=false:=by
 intro ps;induction ps with
 | nil =>(intro A U vs x u ns h;cases A<;>first|(cases h;done)|skip);(cases U<;>first|(cases h;done)|skip);cases vs with|cons v r=>cases h|nil =>obtain⟨_,q⟩:=b9 (aU h);obtain⟨_,rfl⟩:=b9 q;intro b j;cases j
 | cons p ps s =>
   intro A U vs x u ns h;cases p with
   | false =>(cases A<;>first|(cases h;done)|skip);cases vs with|nil=>cases h|cons v r =>simp only[u7] at h;split at h;{rename_i k;obtain⟨_,q⟩:=b9 (aU h);obtain⟨_,rfl⟩:=b9 q;exact s k};cases h
   | true =>
     cases U<;>first|(cases h;done)|skip
     cases vs with
     | nil=>cases h
     | cons t r =>
     cases t<;>first|(cases h;done)|skip
     rename_i b l m;cases m with
     | cons _ _=>cases h
     | nil =>
     simp only[u7] at h;split at h
     case h_2=>cases h
     rename_i f j;cases e:(Nat.beq f.aY l&&!f.buf&&!f.lk&&!f.ro&&Nat.beq f.tid 0) with
     | false=>rw[e] at h;cases h
     | true =>
       rw[e] at h;simp at e;split at h
       case h_2=>cases h
       rename_i y z C n D k;cases i:du n b with
       | true=>rw[i] at h;cases h
       | false =>
         rw[i] at h;obtain⟨_,q⟩:=b9 (aU h);obtain⟨_,rfl⟩:=b9 q;intro c o cx g;rcases eK.1 o with rfl|o
         .rw[j] at g;obtain rfl:=aU g;exact e.1.1.2
         .exact s k c o cx g
def abK:∀{U u ns c v},sS U u ns c=aa v->c∈ns:=by intro U;induction U with|pair t U g e =>(intro u ns c v h;cases ns with|nil=>cases h|cons b r =>simp only[sS] at h;cases f:Nat.beq c b with|true=>(obtain rfl:=iN f;exact pg ..)|false=>rw[f] at h;exact wG _ (e h))|_=>intro u ns c v h;cases h
def V9{ps A U vs x u y ns σ}(h:u7 σ ps A U vs=aa (x,u,ns)):b5 σ (Ce U y ns σ):=λb e c f=>by rw[vR];cases hv:sS U y ns b with|none=>exact c|some v =>have:=abJ h b (abK hv) e c;rw[f] at this;cases this
def Wa{s d f σ bb}(b:(FC s d f σ).run=aa bb):b5 σ bb:=by
 unfold FC at b;split at b
 .split at b;case h_2=>cases b
  split at b;case h_2=>cases b
  obtain⟨_,c⟩:=aD b;obtain rfl:=aU c;apply b5.bF
 .split at b;case h_2=>cases b
  split at b;case h_2=>cases b
  obtain⟨_,c⟩:=aD b;split at c;case h_2=>cases c
  rename_i k h;obtain⟨g,e⟩:=aD c;simp at g;split at e;case h_2=>cases e
  obtain rfl:=aU e;exact(jR λj i=>by rw[h] at i;obtain rfl:=aU i;exact g.1.1.2).trans (b5.bF _ _ _)
 cases b
def abL{b aY}:∀{g j σ r},(mkObj b aY g j σ).run=aa r->b5 σ r.2:=by intro g;induction g with|nil=>(intro j σ r c;obtain rfl:=aU c;apply b5.refl)|cons f q l =>intro j σ r c;cases f with|buf e m =>(obtain⟨_,h⟩:=aD c;obtain⟨aY,n,o⟩:=oF h;obtain⟨y,i,k⟩:=bind_some o;obtain rfl:=aU k;have:=l i;exact n.trans this)|_ =>obtain⟨y,i,k⟩:=bind_some c;obtain rfl:=aU k;have:=l i;exact this
def Wb{b}:∀{c j v σ r},(sU b c j v σ).run=aa r->b5 σ r.2:=by intro c;induction c with|nil =>(intro j v σ r g;obtain rfl:=Mk g;apply b5.refl)|cons f q k =>intro j v σ r g;rcases I3 g with ⟨x,u,y,rfl,h,rfl⟩|⟨e,l,u,rfl,s,i⟩;{have:=k h;exact this};obtain⟨m,n,o⟩:=oF i;obtain⟨y,h,p⟩:=bind_some o;obtain rfl:=aU p;have:=k h;exact n.trans this
def YN{cx inl}(i:∀f h σ v bb,(inl f h σ).run=aa (v,bb)->b5 σ bb){d f h σ bb}
  (b:(Au cx inl d f h σ).run=aa bb):b5 σ bb:=by
 unfold Au at b;split at b
 .split at b;{split at b;{obtain⟨y,l,g⟩:=ck b;obtain rfl:=aU g;apply b5.bF};exact absurd b ch}
  split at b;{rename_i j;obtain⟨y,l,g⟩:=ck b;obtain rfl:=aU g;exact(te j).trans (b5.bF _ _ _)}
  .exact absurd b ch
 .have e:((inl f h σ).bind λr=>.ret (r.2.bF d r.1):Tree St).run=aa bb->b5 σ bb:=by intro b;obtain⟨r,k,g⟩:=bind_some b;obtain rfl:=aU g;exact(i _ _ _ _ _ k).trans (b5.bF _ _ _)
  split at b;{exact Wa b};split at b;{rename_i c m;split at b;{rename_i x u n j;obtain⟨y,l,g⟩:=ck b;obtain rfl:=aU g;exact(V9 j).trans (b5.bF _ _ _)};exact e b};exact e b
def P8{nb e d c σ bb}(b:(nd nb e d c σ).run=aa bb):b5 σ bb:=by
 unfold nd at b;split at b;case h_2=>cases b
 split at b;case h_2=>cases b
 rename_i f;obtain⟨_,b⟩:=aD b;obtain⟨_,b⟩:=cL b;obtain⟨g,h,i⟩:=oF b;obtain rfl:=aU i;exact((so f).trans h).trans (b5.bF _ (aa _) _)
def Wc{e A res spec d f σ bb}(c:(u9 e A res spec d f σ).run=aa bb):b5 σ bb:=by
 unfold u9 at c;split at c;case h_2=>cases c
 split at c;case h_2=>cases c
 rename_i h;split at c;case h_2=>cases c
 rename_i b q u l i;obtain⟨v,_,c⟩:=ck c;obtain⟨r,m,n,j,s,o,_⟩:=vS i;have key:∀g,b5 _ (St.cd _ b g):=λg=>jR λt p=>by rw[r] at p;obtain rfl:=aU p;exact j
 cases res with|true =>(cases d with|none=>cases c|some k=>obtain rfl:=aU c;exact((te h).trans<|key _).trans (b5.bF _ (aa _) _))|false =>cases d with|none=>(obtain⟨_,c⟩:=aD c;obtain rfl:=aU c;exact((te h).trans<|key _).trans (b5.bF _ af _))|some k=>obtain⟨_,c⟩:=aD c;obtain rfl:=aU c;exact((te h).trans<|key _).trans (b5.bF _ _ _)
def Wd{cx nb bf inl}(c:∀f b σ v bb,(inl f b σ).run=aa (v,bb)->b5 σ bb){d f b σ bb}
  (e:(xz cx nb bf inl d f b σ).run=aa bb):b5 σ bb:=by
 unfold xz at e;split at e
 .exact P8 e
 .exact Wc e
 .exact YN c e
end Go.Ge
namespace Go.Ge
open RowKit
def bu(b:St)(T:Tree St):Prop:=∀y,T.run=aa y->b5 b y
def bu.fail{σ}:bu σ .fail:=λy h=>by cases h
def bu.ret{σ bb}(h:b5 σ bb):bu σ (.ret bb):=λy b=>by obtain rfl:=aU b;exact h
def bu.bif{σ c t}(h:bu σ t):bu σ (bif c then t else .fail):=λy b=>h y (aD b).2
def bu.jw{σ c t}(h:bu σ t):bu σ (.jw c t):=λy b=>h y (cL b).2
def bu.look{σ T}{o:Option T}{k}(h:∀x,bu σ (k x)):bu σ (.look o k):=λy b=>by obtain⟨x,_,c⟩:=ck b;exact h x y c
def bu.node{σ c t e}(h:bu σ t)(k:bu σ e):bu σ (.node c t e):=λy b=>by have:=gH b;cases c with|true=>exact h y this|false=>exact k y this
def bu.bind{σ α}{t:Tree α}{f}(h:∀x,t.run=aa x->bu σ (f x)):bu σ (t.bind f):=λy b=>by obtain⟨x,c,e⟩:=bind_some b;exact h x c y e
def bu.bH{σ b val tid buf d}{v:Nat->cw}:bu σ (σ.bH b val tid buf λc σ=>.ret (σ.put d<|v c)):=λy e=>by obtain⟨c,f,g⟩:=oF e;obtain rfl:=aU g;exact f.trans (b5.put _ _ _)
def UD{p:Prop}(h:p:=by repeat' (first|exact bu.fail|exact bu.ret (b5.bF _ _ _)|exact bu.ret (b5.put _ _ _)|exact bu.bH|refine bu.bif ?_|refine bu.jw ?_|refine bu.look λ_=>?_|refine bu.node ?_ ?_|refine bu.bind λ_ _=>?_|split)):p:=h
section
variable {cx:Ctx} {nb:Nat} {bf:List Nat} {inl:Nat->List cw->St->Tree (cw×St)} {d:Option Nat} {σ:St}
def Dw{ty v}:bu σ (kk cx nb bf d ty v σ):=by
 unfold kk;split
 .exact UD
 {split;{rename_i k e _;cases du bf k with|true=>exact bu.bH|false=>exact bu.ret (b5.put _ _ _)};exact bu.ret (b5.bF _ _ _)};exact bu.ret (b5.bF _ _ _)
def S0{c a b}:bu σ (qs d c a b σ):=by unfold qs;exact UD
def S1{ty a}:bu σ (mF cx d ty a σ):=by unfold mF;exact UD
def P9{ty x lo hi}:bu σ (mZ cx d ty x lo hi σ):=by unfold mZ;exact UD
def abM{b aY i}:∀{m k},bu σ (Pw d b aY σ i m k):=by intro m;induction m with|zero=>exact bu.fail|succ m c=>exact bu.node (bu.ret<|b5.bF _ _ _) c
def yA{ty x i}:bu σ (eL cx d ty x i σ):=by
 unfold eL;split
 case h_6=>split
           .exact bu.bif abM
           .exact bu.fail
 all_goals exact UD
def Qa{ty x i}:bu σ (na cx d ty x i σ):=by
 unfold na;split
 {refine bu.bif ?_;split;{exact bu.bif (bu.ret<|b5.bF _ _ _)};exact bu.fail};exact yA
def Qb{ty x i}:bu σ (nc cx d ty x i σ):=by unfold nc;exact UD
def HF{s x k}:bu σ (fl cx d s x k σ):=by unfold fl;exact UD
def KT{s t x}:bu σ (iz cx nb d s t x σ):=by unfold iz;exact UD
def GN{ty t x}:bu σ (Bg cx d ty t x σ):=by
 unfold Bg;split
 {split;{exact bu.fail};exact bu.bind λr b=>bu.ret ((Mo b).trans<|b5.bF _ _ _)};exact bu.fail
def Qc{ty t}:bu σ (Bh cx ty t σ):=by
 unfold Bh;split
 {exact bu.bind λr b=>bu.ret (Mo b)};exact bu.fail
def Ny{name args}:bu σ (uK cx d name args σ):=by
 intro bb b;unfold uK at b;split at b
 {split at b;{rename_i e;obtain⟨y,f,c⟩:=ck b;obtain rfl:=aU c;exact(te e).trans (b5.bF _ _ _)};exact absurd b ch};exact absurd b ch
def Qd{ty u x}:bu σ (uJ cx d ty u x σ):=by
 intro bb b;unfold uJ at b;split at b
 {split at b;{split at b;{rename_i c;obtain rfl:=aU b;exact(so c).trans (b5.bF _ _ _)};exact absurd b ch};exact absurd b ch};exact absurd b ch
def S2(b:∀f e σ v bb,(inl f e σ).run=aa (v,bb)->b5 σ bb){ty c}:bu σ (yq cx nb bf inl d ty c σ):=by
 unfold yq;split
 .split;{exact UD};{split;{exact λy g=>Dv g};{exact λy g=>Dv g};exact bu.fail};{split;{exact GN};{exact GN};exact bu.fail};{split;{exact Qc};exact bu.fail};{exact UD};{exact UD};exact bu.fail
 {split;{exact bu.bif λy g=>Wd b g};exact bu.fail};exact Ny
def Ep(e:∀f g σ v bb,(inl f g σ).run=aa (v,bb)->b5 σ bb){o}:bu σ (sV cx nb bf inl o σ):=by
 unfold sV;split;case h_1=>exact Dw
 case h_2=>exact Dw
 case h_3=>exact S0
 case h_4 =>split;{unfold yf;split;{refine bu.bif λy b=>?_;obtain⟨i,j,k⟩:=oF b;exact j.trans (bu.bH y k)};exact bu.bH};{split;{refine bu.bind λr h=>?_;exact λy b=>(abL h).trans (bu.bH y b)};exact bu.bif bu.bH};exact bu.fail
 case h_5 =>unfold IC;split;{exact bu.fail};{exact bu.fail};{split;{refine bu.bind λr h=>?_;exact λy b=>(Wb h).trans (bu.bH y b)};exact bu.bH};exact bu.fail
 case h_6 =>split;{split;{rename_i c;exact bu.ret ((Nx c).trans<|b5.bF _ _ _)};exact bu.fail};{split;{rename_i c;exact bu.ret ((yz c).trans<|b5.bF _ _ _)};exact bu.fail};{exact UD};exact bu.fail
 case h_7 =>split;{split;{exact bu.bH};refine bu.bif ?_;split;{rename_i c;split;{exact λy b=>(yz c).trans (bu.bH _ b)};exact bu.ret ((yz c).trans<|b5.bF _ _ _)};exact bu.fail};{unfold FD;exact UD};exact bu.fail
 case h_8=>exact S1
 case h_9=>split
           .exact λy b=>P7 b
           .exact bu.fail
 case h_10=>exact UD
 case h_11=>exact UD
 case h_12=>exact UD
 case h_13=>exact KT
 case h_14=>exact UD
 case h_15=>exact P9
 case h_16=>exact HF
 case h_17=>exact UD
 case h_18=>split
            .cases du bf 5000000 with
             | true=>exact Qa
             | false=>exact yA
            .exact bu.fail
 case h_19=>split
            .exact Qb
            .exact bu.fail
 case h_20=>exact UD
 case h_21=>exact UD
 case h_22=>exact S2 e
 case h_23=>exact Qd
 case h_24=>exact bu.fail
end
end Go.Ge
namespace Go.Ge
open RowKit
def oz.shrink{mem cS}(i:∀b c,mem b=aa c->cS b=aa { c with lk:=true }){b aY j K}(k:oz mem b aY j)(h:oz cS b aY K)
  (l:∀c,K { c with lk:=true }->K c):oz mem b aY K:=by
 obtain⟨c,f,m,_⟩:=k;obtain⟨n,g,p,o⟩:=h;rw[i b c f] at g;obtain rfl:=aU g;exact⟨c,f,m,λe=>l c (o e)⟩
def cK.shrink{γ bM mem cS w w'}(g:∀b G,mem b=aa G->cS b=aa { G with lk:=true }):∀{v m us vs},
  cK γ mem w v m us->cK bM cS w' v m vs->cK bM mem w' v m vs:=by
 intro v;induction v with|undef=>intro m us vs _ r;cases m<;>exact r|data t x=>intro m us vs _ r;cases m<;>exact r|qq=>intro m us vs _ r;cases m<;>exact r|vM=>intro m us vs _ r;cases m<;>exact r|cell t x=>intro m us vs _ r;cases m<;>exact r|nl=>intro m us vs _ r;cases m<;>exact r|vN=>intro m us vs _ r;cases m<;>exact r|zy b aY =>(intro m us vs c r;cases m with|many=>exact r|cells=>exact⟨r.1,c.2.shrink g r.2 λ_ k=>k⟩|val=>exact⟨r.1,c.2.shrink g r.2 λ_ k=>k⟩)|ptr b aY p =>(intro m us vs c r;cases m with|many=>exact r|cells=>exact⟨r.1,c.2.shrink g r.2 λ_ k=>k⟩|val=>exact⟨r.1,c.2.shrink g r.2 λ_ k=>k⟩)|whole b aY =>(intro m us vs c r;cases m with|many=>exact r|cells=>exact⟨r.1,c.2.shrink g r.2 λ_ k=>k⟩|val=>exact⟨r.1,c.2.shrink g r.2 λ_ k=>k⟩)|part b aY lo n =>(intro m us vs c r;cases m with|many=>exact r|cells=>exact⟨r.1,c.2.shrink g r.2 λ_ k=>k⟩|val=>exact⟨r.1,c.2.shrink g r.2 λ_ k=>k⟩)|win b aY q e k lo n =>(intro m us vs c r;cases m with|many=>exact r|cells=>exact⟨r.1,c.2.shrink g r.2 λ_ k=>k⟩|val=>exact⟨r.1,c.2.shrink g r.2 λ_ k=>k⟩)|fn f H =>(intro m us vs c r;cases m with|many=>exact r|cells=>(obtain⟨_,_,_,s⟩:=c;obtain⟨h,j,l,F⟩:=r;exact⟨h,j,l,λi b aY z=>(s i b aY z).shrink g (F i b aY z) λ_ k=>k⟩)|val=>obtain⟨_,_,_,s⟩:=c;obtain⟨h,j,l,F⟩:=r;exact⟨h,j,l,λi b aY z=>(s i b aY z).shrink g (F i b aY z) λ_ k=>k⟩)|mix a b o y =>(intro m us vs c r;cases m with|cells=>(obtain⟨_,_,_,A,C⟩:=c;obtain⟨D,E,c,j,l⟩:=r;exact⟨D,E,c,o A j,y C l⟩)|val=>(obtain⟨_,_,_,A,C⟩:=c;obtain⟨D,E,c,j,l⟩:=r;exact⟨D,E,c,o A j,y C l⟩)|many=>obtain⟨_,_,_,A,C⟩:=c;obtain⟨D,E,c,j,l⟩:=r;exact⟨D,E,c,o A j,y C l⟩)|D0 u I =>intro m us vs c r;cases m with|val=>(obtain⟨_,_,s⟩:=c;obtain⟨h,j,l⟩:=r;exact⟨h,j,I s l⟩)|cells=>exact r|many=>exact r
def bP.unlock{B γ bM mem cS w w'}(h:bP B γ mem w)(p:∀b e,mem b=aa e->cS b=aa { e with lk:=true })
  (m:bP B bM cS w') (q:Ext B γ (λi=>match mem i with|some b=>aa { b with lk:=true }|none=>af) w bM cS w'):bP B bM mem w'/\Ext B γ mem w bM mem w':=by
 have r:∀b e,mem b=aa e->bM.loc b=γ.loc b:=by intro b e f;obtain⟨u,k1,k2,k3⟩:=q.boxes b { e with lk:=true } (by simp[f]);rw[p b e f] at k1;obtain rfl:=aU k1;exact(k3 rfl).1
 have n:∀b,mem b≠af->cS b≠none:=by intro b f;cases t:mem b with|none=>exact absurd t f|some e=>rw[p b e t];simp
 refine⟨?_,⟨q.below,q.I,q.s9,q.cells,λb e f=>⟨e,f,b8 _,λ_=>⟨r b e f,rfl,rfl⟩⟩⟩⟩;exact
  { dk:=m.dk
    base:=m.base
    boxes:=λb e f=>by
     have j:=h.boxes b e f;have o:=m.boxes b _ (p b e f);unfold e7 at j o⊢;cases l:e.buf with
     | true=>rw[l] at o;exact o
     | false =>
       rw[l] at j o;obtain⟨_,_,_,_,_,_,_,_,_,v⟩:=j;obtain⟨g,cap,cur,tid,fr,k1,k2,k3,ak6,x⟩:=o;exact⟨g,cap,cur,tid,fr,k1,k2,k3,ak6,v.shrink p x⟩
    inj:=λb c g k y f z j o=>m.inj b c g k y (n b f) (n c z) j o
    fresh:=λb g k f j=>m.fresh b g k (n b f) j
    xd:=m.xd
    sep:=λb e g k s f j A=>by
     have:=m.sep b _ g k s (p b e f) j A;exact this }
def Ext.jn{B γ}{c:St}{w}:Ext B γ c.mem w γ c.jn.mem w where
 below:=yh.refl _ _
 I:=λ_ _ h=>h
 s9:=λ_ _ h=>.inl h
 cells:=λ_ _ _=>rfl
 boxes:=λb e f=>⟨{ e with lk:=true },by simp[St.jn,f],b8 _,λ_=>⟨rfl,rfl,rfl⟩⟩
def bP.jn{B γ}{j:St}{w}(h:bP B γ j.mem w):bP B γ j.jn.mem w:=by
 have inv:∀{b l},j.jn.mem b=aa l->∃e,j.mem b=aa e/\l={ e with lk:=true }:=by intro b l f;simp only[St.jn] at f;split at f;{rename_i e h0;exact⟨e,h0,(aU f).symm⟩};cases f
 have i:∀{b},j.jn.mem b≠af->j.mem b≠none:=by intro b f o;apply f;simp[St.jn,o]
 exact
  { dk:=h.dk
    base:=h.base
    boxes:=λb l f=>by obtain⟨e,h0,rfl⟩:=inv f;have:=(h.boxes b e h0).keep (Ext.jn (B:=B)) rfl (λ_ _ _=>rfl);exact this
    inj:=λb c g k p f q m r=>h.inj b c g k p (i f) (i q) m r
    fresh:=λb g k f m=>h.fresh b g k (i f) m
    xd:=h.xd
    sep:=λb l g k n f m s=>by
     obtain⟨e,h0,rfl⟩:=inv f;exact h.sep b e g k n h0 m s }
def dz.jn{B N γ σ a w}(h:dz B N γ σ a w):dz B N γ σ.jn a w where
 bw:=λt=>(h.bw t).ext (Ext.jn (B:=B))
 size:=h.size
 defers:=h.defers
 ok:=h.ok.jn
def We{e f:St}(h:b5 e.jn f):∀b c,e.mem b=aa c->f.mem b=aa { c with lk:=true }:=λb c g=>h b _ (by simp[St.jn,g]) rfl
end Go.Ge
