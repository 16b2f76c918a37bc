import Derived.Test.YtcebnmppipejfaaGreatDoorGeD
import Derived.Laws.Build
set_option linter.unusedVariables false
set_option linter.unusedSimpArgs false
set_option linter.unusedSectionVars false
set_option linter.defProp false
open Option renaming some->ab,none->ah
open Go.IntKind (i64)
namespace Go.Ge
open RowKit
def x4(P:Program)(G:B4)(inl:Nat->List cA->St->Tree (cA×St)):Prop :=
 ∀(B:BI) (γ:Gh) (σ ba:St) (w:World) (f:Nat) (b:List cA) (i:Array Value) (v:cA),B.G=G->bN B γ σ.mem w->nz γ σ.mem w b i.toList->(inl f b σ).run=ab (v,ba) ->
  (∃h c,P.funcs[f]?=ab h/\(h.name == "runtime.NumGoroutine")=false/\h.body=ab c)/\ba.br=σ.br /\
  Calls P f i w λe w'=>∃g bK,e=.returned g/\bN B bK ba.mem w'/\Ext B γ σ.mem w bK ba.mem w'/\cM bK ba.mem w' v .val [g]
section
variable {P:Program} {B:BI} {N:Nat} {γ:Gh} {σ ba:St} {a:Act} {w w':World} {d:Option Nat} {cx:Ctx} {nb:Nat} {bf:List Nat} {inl:Nat->List cA->St->Tree (cA×St)}
def F3(B:BI)(N:Nat)(c:Gh)(e:St)(a:Act)(w:World)(d:Option Nat)(b:St)(K:Act->World->Prop):Prop :=
 ∀bK v w',dK B N bK b (a.put d v) w'->Ext B c e.mem w bK b.mem w'->K (a.put d v) w'
def R0{f:Nat}{fn code}(c:P.funcs[f]?=ab fn)(e:(fn.name == "runtime.NumGoroutine")=false)(g:fn.body=ab code) args w :
  (callFunc f args).run P w=.ok (.enter f args) w:=by
 have b:¬fn.name = "runtime.NumGoroutine":=by simpa using e
 simp[callFunc,c,b,g]
def b9{o s K Q}(b:execOp a.eval o=(do pure<|.value (<-s)))(h:oR P B N γ σ a w o.dst s ba)(c:F3 B N γ σ a w o.dst ba K):o.wp P a w K Q:=by
 obtain⟨v,w',bK,e,f,g⟩:=h;unfold Oper.wp;rw[b];simp only[Sem.run_bind,e];exact c bK _ w' f g
def Qu{ops:List Operand}(h:dK B N γ σ a w):nz γ σ.mem w (ops.map<|dv σ) (ops.map a.eval):=by
 refine⟨aY,λi v x b c=>?_⟩;rw[EC] at b c;cases e:ops[i]? with
 | none=>rw[e] at b;cases b
 | some o =>
   rw[e] at b c;obtain rfl:=aR b;obtain rfl:=aR c;exact h.dv o
def nz.append{mem vs us f g}(h:nz γ mem w vs f)(k:nz γ mem w us g):nz γ mem w (vs++us) (f++g):=by
 refine⟨by simp[h.1,k.1],λi v x c b=>?_⟩;rw[RE] at c b;rw[h.1] at b;split at c
 .rename_i e;rw[aW e] at b;exact h.2 i v x c b
 .rename_i e;rw[aQ e] at b;exact k.2 _ v x c b
def bN.drop{mem w'}(h:bN B γ mem w){b R1 bx}(t:mem b=ab R1)(j:R1.aV<bx.aV)(m:wL B w w')
  (l:∀k,k<w.heap.size->(∀c,γ.loc b≠ab (k,c))->w'.heap[k]?=w.heap[k]?) (i:∀k o,k<w.heap.size->w'.cell? ⟨k,o,ah⟩=w.cell? ⟨k,o,ah⟩)
  (y:fu (bU γ b ah) (dq mem b bx) w' b bx):bN B (bU γ b ah) (dq mem b bx) w'/\Ext B γ mem w (bU γ b ah) (dq mem b bx) w':=by
 have hx:Ext B γ mem w (bU γ b ah) (dq mem b bx) w' :=
  { below:=m
    I:=λ_ _ x=>x
    rR:=λ_ _ x=>.inl x
    cells:=λblk o x=>i blk o (h.vG blk o x)
    boxes:=λc cx f=>by
     by_cases e:c=b
     .subst e;obtain rfl:R1=cx:=aR (t.symm.trans f);exact⟨bx,bJ _ _,ZV j,λe=>absurd e ai⟩
     .exact⟨cx,by rw[bg _ e];exact f,cq _,λ_=>⟨by simp[bU,e],rfl,rfl⟩⟩ }
 refine⟨?_,hx⟩;exact
  { du:=h.FO hx
    base:=jb h.base m.size
    boxes:=λc cx f=>by
     by_cases e:c=b
     .subst e;rw[bJ] at f
      grind
     .rw[bg _ e] at f;refine(h.boxes c cx f).keep hx (by simp[bU,e]) λblk k u=>l blk (h.fresh c blk k (by rw[f];simp) u).2 λp q=>e ?_;exact h.inj c b blk k p (by rw[f];simp) (by rw[t];simp) u q
    inj:=λc d blk k p f v g n=>by
     by_cases e:c=b
     .simp only[bU,aW e] at g;cases g
     .by_cases r:d=b
      .simp only[bU,aW r] at n;cases n
      .simp only[bU,aQ e] at g;simp only[bU,aQ r] at n;rw[bg _ e] at f;rw[bg _ r] at v;exact h.inj c d blk k p f v g n
    fresh:=λc blk k f g=>by
     by_cases e:c=b
     .simp only[bU,aW e] at g;cases g
     .simp only[bU,aQ e] at g;rw[bg _ e] at f;have:=h.fresh c blk k f g;exact⟨this.1,EB this.2 m.size⟩
    vG:=λblk off s=>EB (h.vG blk off s) m.size
    sep:=λc cx blk k off f g s=>by
     by_cases e:c=b
     .simp only[bU,aW e] at g;cases g
     .simp only[bU,aQ e] at g;rw[bg _ e] at f;exact h.sep c cx blk k off f g s }
def UJ{mem b c}(h:mem b=ab c):dq mem b c=mem:=by
 funext i;by_cases e:i=b
 .subst e;rw[bJ,h]
 .rw[bg _ e]
def OW{f s R xs}(hs:fv P f s)(h:dK B N γ σ a w)(hd:∀k,d=ab k->k<N)(hv:nz γ σ.mem w R xs.toList)
  (C:(C2 s d R σ).run=ab ba) {K} (hK:F3 B N γ σ a w d ba K) :
  (∃fn code,P.funcs[f]?=ab fn/\(fn.name == "runtime.NumGoroutine")=false/\fn.body=ab code)/\Calls P f xs w λe w'=>∃v,e=.returned v/\K (a.put d v) w':=by
 unfold C2 at C;split at C
 .rename_i T b aV;split at C
  case h_2=>cases C
  rename_i Y S;split at C
  case h_2=>cases C
  rename_i b' v' u un A;obtain⟨n,F⟩:=aJ C;obtain rfl:=aR F;simp only[gw,zh] at n;obtain⟨⟨⟨⟨⟨⟨⟨⟨c1,c2⟩,c3⟩,c4⟩,c5⟩,c6⟩,c7⟩,c8⟩,c9⟩:=n;have c1:=ja c1;have c5:=ja c5;have c7:=ja c7;have c8:=ja c8;have c6:0<T:=by simpa using c6
  subst c7;subst c8;obtain⟨val,G,Z,g1,g2⟩:=hv.cons;have r:G=[]:=by have:=g2.1;simpa using this
  subst r;obtain⟨m,i,U,g3⟩:=bA S c1 g1.2;simp only[eF] at g3;obtain rfl:xs=#[.pointer<|some ⟨m,0,ah⟩]:=by apply Fy.1;rw[Z,g3]
  have t:=h.ok.boxes b' Y S;unfold fu at t;rw[c2] at t;obtain⟨abf,ajb,z,tid,fr,a1,a2,a3,a4,a5⟩:=t;rw[U] at a1;obtain⟨rfl,rfl⟩:=cg (aR a1);have H:tid=T:=by
   grind
  subst H;rw[A] at a5;obtain⟨cs1,cs2,e1,e2,e3⟩:=a5;obtain⟨cs3,cs4,e4,e5,e6⟩:=e3;obtain⟨⟨p,rfl,hp1⟩,hp2⟩:=e2;obtain⟨q,hq⟩:∃q,cs3=[q]:=by
   cases u<;>first|(cases c9;done)|skip
   obtain⟨⟨q,hq,_⟩,_⟩:=e5
   grind
  subst hq;obtain rfl:cs4=[]:=e6;have I:z=#[p,q]:=by apply Fy.1;rw[e1,e4];rfl
  subst I;obtain⟨aoM,amg,j1,j2⟩:=bA S c1 hp2;rw[U] at j1;obtain⟨rfl,rfl⟩:=cg (aR j1);refine⟨hs.1,(hs.2 w m p q fr a2 (a3 0 aY)<|j2.imp BQ BQ).mono λe w' D=>?_⟩;obtain⟨rfl,D⟩:=D;refine⟨_,rfl,?_⟩;have V:∀{bK cT w'},cM bK cT w' (.BN .nl) .val [.tuple #[]]:=λ{_ _ _}=>⟨#[],rfl,rfl⟩;rcases D with rfl|rfl
  .refine hK γ _ _ (h.wT hd V) ?_;cases d<;>apply Ext.refl
  .have akD:({ Y with val:=Y.val }:Box)=Y:=by cases Y;rfl
   obtain⟨m1,m2⟩:=h.ok.write S c4 U a2 (cur':=#[.pointer _,q]) aY (by rw[akD])
    (λw' cT hx hg=>by
     rw[c2];refine⟨m,i,_,tid,fr,U,hg,λo ho=>a3 o (by simpa using ho),a4,?_⟩;rw[A];refine⟨[.pointer _],[q],rfl,?_,[q],[],rfl,e5.ext hx,rfl⟩;have hp3:n0 cT b' v' λ_=>∃m i,γ.loc b'=ab (m,i):=by
      obtain⟨R1,k1,k2,k3⟩:=hp2;obtain⟨vf,q1,q2,J⟩:=hx.boxes b' R1 k1;exact⟨vf,q1,jb k2 q2,λ_=>⟨m,i,U⟩⟩
     obtain⟨vf,q1,q2,J⟩:=hp3;exact⟨⟨_,rfl,rfl⟩,vf,q1,q2,λ_=>⟨m,i,U,.inr rfl⟩⟩)
   rw[ UJ S] at m1 m2;refine hK γ _ _ (h.bD m2 m1 hd V) ?_;cases d<;>exact m2
 .rename_i T E b aV;split at C
  case h_2=>cases C
  rename_i Y S;split at C
  case h_2=>cases C
  rename_i b' v' hh hv' un A;obtain⟨n,F⟩:=aJ C;simp only[gw,zh] at n;obtain⟨⟨⟨⟨c1,c2⟩,c5⟩,c6⟩,c7⟩:=n;have c5:=ja c5;have c6:0<T:=by simpa using c6
  split at F
  case h_2=>cases F
  rename_i hx Q;obtain⟨n,hr3⟩:=aJ F;simp only[gw] at n;obtain⟨⟨⟨⟨d1,d2⟩,d3⟩,d4⟩,d5⟩:=n;have d4:=ja d4;have d5:0<E:=by simpa using d5
  split at hr3
  case h_2=>cases hr3
  rename_i l hhv;change List Int at l;obtain rfl:=aR hr3;obtain⟨val,G,Z,g1,g2⟩:=hv.cons;have r:G=[]:=by have:=g2.1;simpa using this
  subst r;obtain⟨m,i,U,g3⟩:=bA S (ja c1) g1.2;obtain rfl:xs=#[.pointer _]:=by apply Fy.1;rw[Z,g3]
  have t:=h.ok.boxes b Y S;unfold fu at t;rw[c2] at t;obtain⟨abf,ajb,z,tid,fr,a1,a2,a3,a4,a5⟩:=t;rw[U] at a1;obtain⟨rfl,rfl⟩:=cg (aR a1);have H:tid=T:=by
   grind
  subst H;rw[A] at a5;obtain⟨cs1,cs2,e1,e2,e3⟩:=a5;obtain⟨cs3,cs4,e4,e5,e6⟩:=e3;obtain⟨⟨p,rfl,hp1⟩,hp2⟩:=e2;obtain⟨⟨q,rfl,hq1⟩,hq2⟩:=e5;obtain rfl:cs4=[]:=e6;have I:z=#[p,q]:=by apply Fy.1;rw[e1,e4];rfl
  subst I;obtain⟨e',n',k1,k2,k3⟩:=bA Q (ja d1) hq2;rw[Box.eu d2 hhv] at k2;obtain⟨rfl,rfl⟩:=cg (aR k2);have L:=h.ok.boxes hh hx Q;unfold fu at L;rw[d2] at L;obtain⟨e3,l3,q1,q2,J⟩:=L;rw[hhv] at q1;cases q1;have hlen:(bu l).length=l.length:=by simp[bu]
  let hx':Box:={ hx with val:=.data (.slice<|.int .u8) ([]),aV:=hx.aV+1 }
  have key:∃og,(∀k,og=ab k->∃c,γ.loc hh=ab (k,c))/\l.length<=maxLen /\
    ((og=ah/\q=.slice ah 0 0/\bu l=[])\/∃(g i:Nat) (z:Array Value) (fr':Nat×Nat),og=ab g/\q=.slice (ab ⟨g,0,ah⟩) (bu l).length i/\w.heap[g]?=ab (.cells z E fr')/\(bu l).length<=i/\i<=maxLen/\z.size=i/\∀(j:Nat) x,(bu l)[j]?=ab x->z[j]?=ab (Value.int .u8 x.toNat)):=by
   rcases k3 with ⟨k3,k4⟩|⟨g,M,k3,k4⟩
   .rcases J with ⟨_,J⟩|⟨_,_,_,_,_,J,_⟩
    .subst J;exact⟨ah,Fx,qO _,.inl ⟨rfl,BQ k4,rfl⟩⟩
    .grind
   .rcases J with ⟨J,_⟩|⟨g',anK,O,amh,frg,J,q4,q5,q6,q7,q8,q9,q10⟩
    .grind
    .rw[k3] at J;obtain⟨rfl,rfl⟩:=cg (aR J);have htg:amh=E:=by
      grind
     subst htg;have W:(Ty.int IntKind.u8).size=1:=rfl;have q7':l.length<=M:=q7;refine⟨ab g,λk X=>⟨M,by rw[k3,aR X]⟩,jb q7' q8,.inr ⟨g,M,O,frg,rfl,?_,q4,ai,q8,by rw[q9,W,LG],λj x hj=>?_⟩⟩
     .rw[hlen];exact BQ k4
     .simp only[bu,EC,EA] at hj;obtain⟨y,hy,rfl⟩:=hj;obtain⟨r1,r2,r3⟩:=q10 j y hy;rw[W,LG] at r1;have ami:(IntKind.u8).min=0:=aK;have ag9:(IntKind.u8).max=255:=aK;have anL:O.toList[j]?=ab (.int .u8 y):=by
       have:((O.toList.drop j).take 1)[0]?=ab (.int .u8 y):=by rw[r1];rfl
       grind
      simp_all;omega
  obtain⟨og,hog,hlm,X⟩:=key;refine⟨hs.1,(hs.2 w m p q fr _ og a2 X).mono λe w' D=>?_⟩;obtain⟨rfl,D⟩:=D;refine⟨_,rfl,?_⟩;have amj:wL B w w':=⟨D.os,D.tape,D.output,D.size,λk X=>by
   rcases vS k w.heap.size with hlt|hge
   .refine D.block k hlt λe=>X ?_;obtain⟨c,hc⟩:=hog k e;exact(h.ok.fresh hh k c (by rw[Q];simp) hc).1
   .exact absurd (.inl<|jb h.ok.base hge) X⟩
  have amk:fu (bU γ hh ah) (dq σ.mem hh hx') w' hh hx':=by
   unfold fu;rw[show hx'.buf=true from d2];exact⟨.int .u8,[],rfl,q2,.inl ⟨by simp[bU],rfl⟩⟩
  obtain⟨m1,m2⟩:=h.ok.drop Q (ZM _) amj (λk X hn=>D.block k X λe=>by obtain⟨c,hc⟩:=hog k e;exact hn c hc) D.cell amk;refine hK _ _ w' (h.bD m2 m1 hd ⟨[.string ⟨(bu l).toArray⟩],⟨rfl,by rw[hlen];exact hlm⟩,rfl⟩) ?_
  .cases d<;>exact m2
 .cases C
def R4(p:rb P B.G cx)(U:x4 P B.G inl){f m E}(h:dK B N γ σ a w)(V:∀k,d=ab k->k<N)(W:nz γ σ.mem w m E.toList)
  (j:(yK cx inl d f m σ).run=ab ba) {K} (R:F3 B N γ σ a w d ba K) :
  (∃F q,P.funcs[f]?=ab F/\(F.name == "runtime.NumGoroutine")=false/\F.body=ab q)/\Calls P f E w λe w'=>∃v,e=.returned v/\K (a.put d v) w':=by
 unfold yK at j;split at j
 .rename_i c X;have S:=p.con f c X;refine⟨S.body,?_⟩;split at j
  .rename_i H;split at j
   .rename_i x Y;obtain⟨y,Z,l⟩:=cp j;obtain rfl:=aR l;refine(S.calls _ w E x y (λb o t=>t) h.ok.RQ (OU (I':=λb o=>b<w.heap.size) h.ok (λb o i=>h.ok.vG b o i) (λb o _ t=>t) W Y) Z).mono λe w' J=>?_;obtain⟨v,I',L,C,M,T,h5,h6⟩:=J;refine⟨v,L,?_⟩;obtain⟨m1,D⟩:=h.ok.far (I':=γ.I) C (λ_ _ i=>i) (λb o i=>EB (h.ok.vG b o i) C.size) (λb o i hn=>absurd i hn);refine R γ _ w' (h.bD D m1 V<|h6.flat H) ?_;cases d<;>exact D
   .exact absurd j cm
  .split at j
   .rename_i x b6 Y;obtain⟨y,Z,l⟩:=cp j;obtain rfl:=aR l;obtain⟨γ1,s1,s2,s3⟩:=tU h W Y;refine(S.calls γ1.I w E x y (λb o i=>s1.ok.vG b o i) s1.ok.RQ s3 Z).mono λe w' J=>?_;obtain⟨v,I',L,C,M,T,h5,h6⟩:=J;refine⟨v,L,?_⟩;obtain⟨m1,D⟩:=s1.ok.far (I':=I') C M T h5;refine R ⟨I',γ1.loc⟩ _ w' (s1.bD D m1 V<|h6.rep λ_ _ i=>i) ?_;cases d<;>exact s2.trans D
   .exact absurd j cm
 .rename_i X;have alq:((inl f m σ).bind λr=>.ret (r.2.bD d r.1):Tree St).run=ab ba->(∃F q,P.funcs[f]?=ab F/\(F.name == "runtime.NumGoroutine")=false/\F.body=ab q)/\Calls P f E w λe w'=>∃v,e=.returned v/\K (a.put d v) w':=by
   intro j;obtain⟨r,hr1,l⟩:=bind_some j;obtain rfl:=aR l;obtain⟨v0,rE⟩:=r;obtain⟨t,hsl,z⟩:=U B γ σ rE w f m E v0 rfl h.ok W hr1;refine⟨t,z.mono λe w' J=>?_⟩;obtain⟨v,bK,L,C,M,T⟩:=J;refine⟨v,L,?_⟩;have hs0:rE={ br:=σ.br,mem:=rE.mem }:=by cases rE;subst hsl;rfl
   rw[hs0] at R;refine R bK _ w' (h.bD M C V T) ?_;cases d<;>exact M
  split at j
  .rename_i s hcs;exact OW (p.T4 f s hcs) h V W j R
  split at j
  .rename_i c hcr;split at j
   .rename_i x u ns Y;obtain⟨y,Z,l⟩:=cp j;obtain rfl:=aR l;have S:=p.ad3 f c hcr;obtain⟨bs,g1,g2,g3⟩:=OV h.ok W Y;have O:∀A∈bs,∀o,¬γ.I A o:=λA t o i=>by
     obtain⟨b,bx,k,j1,j2,j3,j4⟩:=g2.Mj A t;have:=(h.ok.sep b bx A k o j2 j4 i).1
     grind
    refine⟨S.body,(S.calls γ.I w E bs x u y (λb o i=>h.ok.vG b o i) h.ok.RQ (λb Q g t=>by
     obtain⟨n,bx,k,j1,j2,j3,j4⟩:=g2.Mj b t;exact(h.ok.du b Q g).1 (h.ok.fresh n b k (by rw[j2];simp) j4).1) g1 g3 (g2.nodup h.ok) O Z).mono λe w' J=>?_⟩
    obtain⟨v,I',L,C,M,T,h5,h6,h7⟩:=J;refine⟨v,L,?_⟩;obtain⟨m1,D⟩:=h.ok.refs g2 C M T h5 h7;refine R ⟨I',γ.loc⟩ _ w' (by exact h.bD D m1 V<|h6.rep λ_ _ i=>i) ?_;cases d<;>exact D
   .grind
  .grind
def bN.Xw{mem w'}(h:bN B γ mem w){b vf e U L X I' v}
  (K:∀k,X k->∃g c,mem b=ab g/\g.ro=false/\γ.loc b=ab (k,c)) (p:mb w γ.I X w' I') (u:xZ w' I' e U L v) (S:∀f c,L=ab (f,c)->X f\/w.heap.size<=f)
  (V:∀g,mem b=ab g->g.aV<vf.aV\/(g.aV=vf.aV/\L=γ.loc b/\vf.buf=g.buf/\vf.row=g.row)) (W:vf.val=.data (.slice e) U) (Y:vf.buf=true) (Z:vf.tid=0) (he:0<e.size) :
  let bK:Gh:=⟨I',λi=>if i=b then L else γ.loc i⟩
  bN B bK (dq mem b vf) w'/\Ext B γ mem w bK (dq mem b vf) w':=by
 intro bK;have m:∀k,k<w.heap.size->¬X k->w'.heap[k]?=w.heap[k]?:=λk s M=>p.below.block k λq=>by
  rcases q with q|q
  .grind
  .grind
 have z:∀k,X k->∀o,¬γ.I k o:=λk s o y=>by
  obtain⟨g,c,n,r,O⟩:=K k s;have:=(h.sep b g k c o n O y).1
  grind
 have E:∀k,¬B.has k->k<w.heap.size:=λk s=>ZL λq=>s (.inl<|jb h.base q);have A:∀k,X k->B.has k/\k<w.heap.size:=λk s=>by
  obtain⟨g,c,n,r,O⟩:=K k s;exact h.fresh b k c (by rw[n];simp) O
 have hx:Ext B γ mem w bK (dq mem b vf) w' :=
  { below:=⟨p.below.os,p.below.tape,p.below.output,p.below.size,λk s=>m k (E k s) λM=>s (A k M).1⟩
    I:=p.held
    rR:=λb o x=>by
     by_cases y:γ.I b o
     .grind
     .exact .inr (.inl<|jb h.base<|p.rR b o x y)
    cells:=λb o y=>dM (m b (h.vG b o y) λM=>z b M o y)
    boxes:=λc cx j=>by
     by_cases l:c=b
     .subst l;refine⟨vf,bJ _ _,?_,λF=>?_⟩
      .grind
      .grind
     .exact⟨cx,by rw[bg _ l];exact j,cq _,λ_=>⟨by simp[bK,l],rfl,rfl⟩⟩ }
 have aoU:∀f c,L=ab (f,c)->f<w'.heap.size/\∀o,¬I' f o:=λf c G=>by
  rcases u with ⟨q,_⟩|⟨H,cap,cur,tid,fr,q1,q2,q3,q4,q5,q6,q7,q8,q9⟩
  .grind
  .grind
 have C:∀{c d:Nat},c≠b->dq mem b vf c≠ah->mem c≠none:=λj Q=>by rwa [bg _ j] at Q
 have R:∀{d f k c},d≠b->mem d≠ah->L=ab _->γ.loc d=ab _->False:=λ{d f k c} hd Q G r=>by
  rcases S f k G with t|t
  .obtain⟨g,c0,j1,j2,T⟩:=K f t;exact hd (h.inj d b f c c0 Q (by rw[j1];simp) r T)
  .have:=(h.fresh d f c Q r).2;omega
 refine⟨?_,hx⟩;exact
  { du:=h.FO hx
    base:=jb h.base p.below.size
    boxes:=λc cx j=>by
     by_cases l:c=b
     .subst l;rw[bJ] at j;unfold fu;rcases u with ⟨q1,q2,q3⟩|⟨H,cap,cur,tid,fr,q1,q2,q3,q4,q5,q6,q7,q8,q9⟩
      .grind
      .grind
     .rw[bg _ l] at j;refine(h.boxes c cx j).keep hx (by simp[bK,l]) λf k G=>m f (h.fresh c f k (by rw[j];simp) G).2 λt=>?_;obtain⟨g,c0,j1,j2,T⟩:=K f t;exact l (h.inj c b f k c0 (by rw[j];simp) (by rw[j1];simp) G T)
    inj:=λc d f k k' j hd n r=>by
     by_cases l:c=b
     .by_cases F:d=b
      .grind
      .exfalso;simp only[bK] at n;simp only[bK,aQ F] at r;simp_all
     .by_cases F:d=b
      .exfalso;simp only[bK] at n;simp only[bK] at r;simp_all
      .simp only[bK,aQ l] at n;simp only[bK,aQ F] at r;exact h.inj c d f k k' (C (d:=0) l j) (C (d:=0) F hd) n r
    fresh:=λc f k j n=>by
     by_cases l:c=b
     .grind
     .simp only[bK,aQ l] at n;have:=h.fresh c f k (C (d:=0) l j) n;exact⟨this.1,EB this.2 p.below.size⟩
    vG:=p.vG
    sep:=λc cx f k D j n y=>by
     by_cases l:c=b
     .grind
     .simp only[bK,aQ l] at n;rw[bg _ l] at j;by_cases J:γ.I f D
      .exact h.sep c cx f k D j n J
      .have O:=p.rR f D y J;have r:=(h.fresh c f k (by rw[j];simp) n).2;omega }
def xZ.rep{I loc mem w e l L v b aV bx}(h:xZ w I e l L v)
  (f:loc b=L) (p:mem b=ab bx) (g:bx.aV=aV) (c:bx.buf=true) (i:bx.val=.data (.slice e) l):cM ⟨I,loc⟩ mem w (.whole b aV) .val [v]:=by
 rcases h with ⟨k,m,n⟩|⟨j,o,q,tid,r,k,m,n,s,t,u,x,y,z⟩
 .exact⟨⟨v,rfl,by rw[n];rfl⟩,gS p g ⟨e,l.length,c,Box.eu c i,.inl ⟨by rw[<-k];exact f,by rw[n]⟩⟩⟩
 .exact⟨⟨v,rfl,by rw[m];rfl⟩,gS p g ⟨e,l.length,c,Box.eu c i,.inr ⟨j,o,by rw[<-k];exact f,by rw[m]⟩⟩⟩
def aet{mem}(h:bN B γ mem w){b aV i}{e:Ty}{l:List e.den}{v}(u:mem b=ab i)(m:i.aV=aV)(f:i.buf=true)(D:i.ro=false)(g:i.val=.data (.slice e) l)
  (E:cM γ mem w (.whole b aV) .val [v]):xZ w γ.I e l (γ.loc b) v/\0<e.size:=by
 obtain⟨O,n,Q,A,c⟩:=bA u m E.2;rw[Box.eu f g] at A;obtain⟨rfl,rfl⟩:=cg (aR A);have j:=h.boxes b i u;unfold fu at j;rw[f] at j;obtain⟨R,S,C,F,k⟩:=j;rw[g] at C;cases C;refine⟨?_,F⟩;rcases k with ⟨k,x⟩|⟨p,q,y,tid,G,k,x,H,T,J,K,L,z⟩
 .rcases c with ⟨c,r⟩|⟨s,t,c,r⟩
  .exact .inl ⟨c,x,BQ r⟩
  .grind
 .rcases c with ⟨c,r⟩|⟨s,t,c,r⟩
  .grind
  .rw[k] at c;obtain⟨rfl,rfl⟩:=cg (aR c);refine .inr ⟨p,q,y,tid,G,k,BQ r,x,H,J,K,L,λo M=>?_,z⟩;have:=(h.sep b i p q o u k M).1
   grind
def uP{e v b aV i l}(h:Ad e σ v=ab (b,aV,i,l)):σ.mem b=ab i/\i.aV=aV/\i.buf=true/\i.lk=false/\i.ro=false/\i.tid=0 /\
  ∃k:List e.den,i.val=.data (.slice e) k/\((v=.whole b aV/\l=k)\/∃n,v=.part b aV 0 n/\l=sub k 0 n):=by
 unfold Ad at h;split at h
 .rename_i r g;split at h
  .rename_i c p;cases f:(Nat.beq c.aV g&&c.buf&&!c.lk&&!c.ro&&Nat.beq c.tid 0) with
   | false=>rw[f] at h;cases h
   | true =>
     rw[f] at h;split at h
     .rename_i u k j;split at h
      .rename_i s m;obtain⟨q,o⟩:=mD m;subst q;subst o;simp_all
      .cases h
     .cases h
  .cases h
 .rename_i r g t n;split at h
  .rename_i c p;cases f:(Nat.beq c.aV g&&c.buf&&!c.lk&&!c.ro&&Nat.beq c.tid 0&&decide (t=0)) with
   | false=>rw[f] at h;cases h
   | true =>
     rw[f] at h;simp only[gw,zh,pR] at f;split at h
     .rename_i u k j;split at h
      .rename_i s m;obtain⟨q,o⟩:=mD m;subst q;subst o;cases h;have x:=f.2;subst x;exact⟨p,ja f.1.1.1.1.1,f.1.1.1.1.2,f.1.1.1.2,f.1.1.2,ja f.1.2,_,j,.inr ⟨n,rfl,rfl⟩⟩
      .cases h
     .cases h
  .cases h
 .cases h
def Xx{mem}(h:bN B γ mem w){b aV m}{e:Ty}{l:List e.den}{n v}(z:mem b=ab m)(r:m.aV=aV)(c:m.buf=true)(J:m.ro=false)(f:m.val=.data (.slice e) l)
  (K:cM γ mem w (.part b aV 0 n) .val [v]):xZ w γ.I e (sub l 0 n) (γ.loc b) v/\0<e.size:=by
 obtain⟨V,k,D,W,X,Y,E,g,u,Z,k8,L,k9⟩:=bA z r K.2;rw[Box.eu c f] at D;obtain⟨rfl,rfl⟩:=cg (aR D);have p:=h.boxes b m z;unfold fu at p;rw[c] at p;obtain⟨e3,l3,F,M,j⟩:=p;rw[f] at F;cases F;refine⟨?_,M⟩;obtain u:=BQ u;have hlen:(sub l 0 n).length=n.toNat:=by
  simp only[sub,km,nV];omega
 rcases L.2 rfl c with ⟨s,rfl,rfl⟩|⟨q,s,rfl⟩
 .rcases j with ⟨j,y⟩|⟨q,A,t,tid,G,j,_⟩
  .subst y;have:n.toNat=0:=ai;exact .inl ⟨s,by simp[sub],by rw[u,this]⟩
  .grind
 .rcases j with ⟨j,y⟩|⟨H,A,t,tid,G,j,y,O,q6,q7,Q,R,C⟩
  .grind
  .rw[s] at j;obtain⟨rfl,rfl⟩:=cg (aR j);refine .inr ⟨q,g,t,tid,G,s,by rw[hlen];exact u,y,O,ai,Q,R,λo S=>?_,λi x T=>C i x ?_⟩
   .have:=(h.sep b m q g o z s S).1
    grind
   .have U:((l.drop (0:Int).toNat).take n.toNat)[i]?=ab x:=T
    grind
def Qv{e v b aV q l val}(k:bN B γ σ.mem w)(h:Ad e σ v=ab (b,aV,q,l))(m:cM γ σ.mem w v .val [val]):xZ w γ.I e l (γ.loc b) val/\0<e.size:=by
 obtain⟨o,c,f,r,j,p,s,g,i⟩:=uP h;rcases i with ⟨rfl,rfl⟩|⟨n,rfl,rfl⟩
 .exact aet k o c f j g m
 .exact Xx k o c f j g m
def x5{f s}(h:yJ cx bf d f=ab s):find cx.T4 f=ab s:=by
 unfold yJ at h
 grind
def Kb{f e i s}(E:fv P f (.clone e))(h:dK B N γ σ a w)(H:∀k,d=ab k->k<N)(J:nz γ σ.mem w i s.toList)
  (g:(nf nb e d i σ).run=ab ba) {K} (M:F3 B N γ σ a w d ba K) :
  (∃t m,P.funcs[f]?=ab t/\(t.name == "runtime.NumGoroutine")=false/\t.body=ab m)/\Calls P f s w λe w'=>∃v,e=.returned v/\K (a.put d v) w':=by
 unfold nf at g;split at g
 case h_2=>cases g
 rename_i k x;split at g
 case h_2=>cases g
 rename_i l b6 O;obtain⟨Q,g⟩:=aJ g;obtain⟨n,g⟩:=cP g;obtain⟨aV,p,u⟩:=ez g;obtain rfl:=aR u;obtain⟨R,r,y,S,T⟩:=J.cons;have j:r=[]:=by have:=T.1;simpa using this
 subst j;obtain⟨z,A,U,V,W,X⟩:=n9 h S O;refine⟨E.1,(E.2 z.I w s l (λb o Y=>A.ok.vG b o Y) ⟨V,[],by rw[y,X],W,rfl⟩ n).mono λq w' Z=>?_⟩;obtain⟨v,I',L,rfl,h1,F,h3⟩:=Z;refine⟨v,rfl,?_⟩;obtain⟨m1,G⟩:=A.ok.Xw (vf:={ val:=.data _ l,tid:=0,buf:=true,ro:=false,lk:=false,aV }) (λ_ hf=>hf.elim) h1 F (λC c hl=>.inr (h3 C c hl))
  (λD h0=>.inl (p D h0)) rfl rfl rfl (by simpa using Q)
 exact M _ _ w' (A.step G m1 (H k rfl)<|F.rep aY (bJ _ _) rfl rfl rfl) (U.trans G)
def OX{f e A res spec m R}(hs:fv P f (.own e A res spec))(h:dK B N γ σ a w)(hd:∀k,d=ab k->k<N)(hv:nz γ σ.mem w m R.toList)
  (i:(tQ e A res spec d m σ).run=ab ba) {K} (hK:F3 B N γ σ a w d ba K) :
  (∃S z,P.funcs[f]?=ab S/\(S.name == "runtime.NumGoroutine")=false/\S.body=ab z)/\Calls P f R w λe w'=>∃v,e=.returned v/\K (a.put d v) w':=by
 unfold tQ at i;split at i
 case h_2=>cases i
 rename_i v0 vs;split at i
 case h_2=>cases i
 rename_i x b6 hg;split at i
 case h_2=>cases i
 rename_i b T C l D;obtain⟨E,r,i⟩:=cp i;obtain⟨U,F,g,hlk,V,p,l0,G,s⟩:=uP D;obtain⟨W,H,X,g1,g2⟩:=hv.cons;obtain⟨t,y,Y,u⟩:=tU h g2 hg;obtain⟨J,he⟩:=Qv y.ok D (g1.ext Y);refine⟨hs.1,(hs.2 t.I w R W H l E _ x (λb o hi=>y.ok.vG b o hi) X J u r).mono λq w' hw=>?_⟩;obtain⟨I',h1,h2⟩:=hw;have hX:∀k,(∃c,t.loc b=ab _)->∃j c,b6.mem b=ab j/\j.ro=false/\t.loc b=ab (k,c):=λk ⟨c,hc⟩=>⟨C,c,U,V,hc⟩;cases res with
 | true =>
   cases d with
   | none=>cases i
   | some k =>
     obtain rfl:=aR i;obtain⟨v',L',rfl,Q,h4⟩:=h2;refine⟨v',rfl,?_⟩;obtain⟨m1,L⟩:=y.ok.Xw (b:=b) (vf:={ C with val:=.data (.slice e) E,aV:=T+1 }) hX h1 Q h4 (λj M=>by
      rw[U] at M;obtain rfl:=aR M;exact .inl (by simp[F])) rfl g p he
     exact hK _ _ w' (y.step L m1 (hd k rfl)<|Q.rep aY (bJ _ _) rfl g rfl) (Y.trans L)
 | false =>
   have Z:KP v0=true/\ba=(b6.ch b { C with val:=.data (.slice e) E }).bD d (.BN .nl):=by
    cases d with
    | none=>obtain⟨q1,q2⟩:=aJ i;exact⟨q1,(aR q2).symm⟩
    | some k=>obtain⟨q1,q2⟩:=aJ i;exact⟨q1,(aR q2).symm⟩
   obtain⟨hwh,rfl⟩:=Z;obtain rfl:l=l0:=by
    rcases s with ⟨_,q⟩|⟨n,rfl,_⟩
    .exact q
    .cases hwh
   obtain⟨rfl,O,Q⟩:=h2;refine⟨_,rfl,?_⟩;obtain⟨m1,L⟩:=y.ok.Xw (vf:={ C with val:=.data (.slice e) E }) hX h1 Q (λblk c hl=>.inl ⟨c,hl⟩) (λj M=>by
    rw[U] at M;obtain rfl:=aR M;exact .inr ⟨rfl,rfl,rfl,by rw[Box.eu g G,Box.eu (bx:={ C with val:=.data (.slice e) E }) g rfl,O]⟩) rfl g p he
   refine hK _ _ w' (y.bD L m1 hd ⟨#[],rfl,rfl⟩) ?_;cases d<;>exact Y.trans L
def OY(b:rb P B.G cx)(g:x4 P B.G inl){f c q}(h:dK B N γ σ a w)(l:∀k,d=ab k->k<N)(m:nz γ σ.mem w c q.toList)
  (i:(vT cx nb bf inl d f c σ).run=ab ba) {K} (n:F3 B N γ σ a w d ba K) :
  (∃o j,P.funcs[f]?=ab o/\(o.name == "runtime.NumGoroutine")=false/\o.body=ab j)/\Calls P f q w λe w'=>∃v,e=.returned v/\K (a.put d v) w':=by
 unfold vT at i;split at i
 .rename_i e p;exact Kb (b.T4 f _<|x5 p) h l m i n
 .rename_i e A r s p;exact OX (b.T4 f _<|x5 p) h l m i n
 .exact R4 b g h l m i n
def Mk{o}{f:Nat}{g K Q}(i:(execOp a.eval o).run P w=(callFunc f g).run P w)
  (h:(∃c b,P.funcs[f]?=ab c/\(c.name == "runtime.NumGoroutine")=false/\c.body=ab b)/\Calls P f g w λe w'=>∃v,e=.returned v/\K (a.put o.dst v) w'):o.wp P a w K Q:=by
 obtain⟨⟨c,b,j,k,l⟩,m⟩:=h;unfold Oper.wp;rw[i,R0 j k l];refine m.mono λe w' n=>?_
 grind
def UK(K:fX P cx){t X:TypeId}{v x n}(L:bN B γ σ.mem w)(A:cM γ σ.mem w v .val [x])(p:ZW (find cx.T t) v=true)(f:lenOf σ v=ab n) :
  (Builtin.len_ #[t] X #[x]).run P w=.ok (goInt n) w/\IntKind.i64.min<=n/\n<=IntKind.i64.max:=by
 have Y:maxLen<=IntKind.i64.max:=aK;have Z:IntKind.i64.min<=0:=aK;have h:∀{base m c},(∃e,find cx.T t=ab (.slice e))->x=.slice base m c->n=m->m<=maxLen->(Builtin.len_ #[t] X #[x]).run P w=.ok (goInt n) w/\IntKind.i64.min<=n/\n<=IntKind.i64.max:=by
  intro base m c M hx hn L;obtain⟨e,M⟩:=M;obtain⟨O,Q,_⟩:=(K.T _ _ M).slice;subst hx;subst hn;refine⟨?_,ai,ai⟩;simp[Builtin.len_,run_underlying Q]
 have i:∀{o:Option Ty},(match o with|some (.slice _)=>true|_=>false)=true->∃e,o=ab (.slice e):=by
  grind
 cases v with
 | data u y =>
   cases u with
   | str =>
     obtain⟨rfl,C⟩:=yL A;obtain rfl:=aR f;have e1:(⟨List.toArray y⟩:ByteArray).size=List.length y:=by
      show(List.toArray y).size=_
      grind
     refine⟨?_,?_,?_⟩
     .simp only[Builtin.len_];simp[run_underlying<|(K.T _ _<|jN p).str,e1,len]
     .simp only[len];omega
     .simp only[len];omega
   | slice e =>
     obtain rfl:=aR f;obtain⟨cs,D,C⟩:=eH.1 A;rcases D with ⟨⟨_,D⟩,R⟩|⟨E,off,q,D,R,h4,_⟩
     .rw[D] at C;exact h ⟨e,jN p⟩ C (by rw[R];rfl) (qO _)
     .rw[D] at C;exact h ⟨e,jN p⟩ C rfl (jb R h4)
   | arr m e =>
     obtain⟨O,Q,_⟩:=(K.T _ _<|jN p).arr;simp only[lenOf] at f;cases j:Nat.ble m 4294967296 with
     | false=>rw[j] at f;cases f
     | true =>
       rw[j] at f;obtain rfl:=aR f;have:=JU j;have h9:4294967296<=IntKind.i64.max:=aK;refine⟨by simp[Builtin.len_,run_underlying Q],ai,ai⟩
   | _=>cases f
 | pT =>
   obtain rfl:=aR f;obtain rfl:x=_:=by simpa [cM] using A
   exact h (i p) rfl rfl (qO _)
 | whole b aV =>
   simp only[lenOf] at f;split at f
   .rename_i F j;cases g:(Nat.beq F.aV aV&&F.buf) with
    | false=>rw[g] at f;cases f
    | true =>
      rw[g] at f;simp only[gw] at g;split at f
      .rename_i u l r;obtain rfl:=aR f;obtain⟨e',k,S,U,G⟩:=bA j (ja g.1) A.2;rw[Box.eu S r] at U;obtain⟨rfl,rfl⟩:=cg (aR U);rcases G with ⟨G,H⟩|⟨E,q,G,H⟩
       .have I:=L.boxes b F j;rw[fu,S] at I;obtain⟨e3,l3,V,q2,z⟩:=I;rw[r] at V;cases V;rcases z with ⟨_,z⟩|⟨E,q,W,tid,fr,z,_⟩
        .exact h (i p) (BQ H) (by rw[z];rfl) (qO _)
        .grind
       .obtain⟨W,tid,fr,V,q2,z,q4,_⟩:=((L.boxes b F j).row G).1 _ l S r;exact h (i p) (BQ H) rfl (jb z q4)
      .cases f
   .cases f
 | part b aV lo n' =>
   simp only[lenOf] at f;cases s:live σ b aV with
   | false=>rw[s] at f;cases f
   | true =>
     rw[s] at f;obtain rfl:=aR f;obtain⟨F,j,J⟩:=lg s;obtain⟨e',k,U,G,H,g5,base,q,g6,g7,g8,gF,g9⟩:=bA j J A.2;exact h (i p) (BQ g6) (adF H).symm (jb g7 g8)
 | _=>cases f
def fC.take{w I e l cs}(h:fC w I e l cs) k:fC w I e (l.take k) (cs.take<|k*e.size):=by
 intro i x b;rw[jU] at b;split at b
 .rename_i c;have f:_*e.size<=k*e.size:=ic _ c;rw[JY] at f;rw[ZR,I0,yF ai];exact h i x b
 .cases b
def fC.drop{w I e l cs}(h:fC w I e l cs) k:fC w I e (l.drop k) (cs.drop<|k*e.size):=by
 intro i x b;rw[tf] at b;rw[yG,<-jc];exact h _ x b
def Jd{α}{l m:List α}{b:Int}(c:0<=b)(h:b+m.length<=l.length):(over l b m).length=l.length:=by
 simp only[over,hY,km,nV];omega
def fC.over{w I e l m cs news}{lo:Int}(h:fC w I e l cs)(n:fC w I e m news)(f:news.length=m.length*e.size)(s:0<=lo)
  (t:lo+m.length<=l.length) (u:l.length*e.size<=cs.length):fC w I e (over l lo m) (bh cs (lo.toNat*e.size) news):=by
 have o:(lo.toNat+m.length)*e.size<=l.length*e.size:=ic _ ai;rw[jc] at o;have k:=(h.take lo.toNat).append (rest:=[]) n (by rw[km,km,yF ai,yF ai]) f;rw[zi] at k;have p:bh cs (lo.toNat*e.size) news=cs.take (lo.toNat*e.size)++news++cs.drop ((lo.toNat+m.length)*e.size):=by
  simp only[bh,f,jc]
 rw[p];intro i x g;by_cases b:(lo.toNat+m.length)*e.size+(l.length-(lo.toNat+m.length))*e.size=l.length*e.size
 .have q:fC w I e (Go.Ge.over l lo m) (cs.take (lo.toNat*e.size)++news++(cs.drop<|(lo.toNat+m.length)*e.size)):=by
   intro i x g;by_cases j:i<lo.toNat+m.length
   .have c:(l.take lo.toNat++m)[i]?=ab x:=by
     simp only[Go.Ge.over] at g
     grind
    rw[oS<|by rw[hY,km,f,yF ai,<-jc];exact(ic _ j)];exact k i x c
   .have c:(l.drop<|lo.toNat+m.length)[i-(lo.toNat+m.length)]?=ab x:=by
     simp only[Go.Ge.over] at g
     grind
    have:=h.drop _ _ x c;have r:i*e.size=(cs.take (lo.toNat*e.size)++news).length+(i-(lo.toNat+m.length))*e.size:=by
     rw[hY,km,f,yF ai,<-jc,<-jc];congr 1;omega
    rw[r,<-yG]
    grind
  exact q i x g
 .exact absurd (by rw[<-jc];congr 1;omega) b
def wX(h:dK B N γ σ a w){e m b aV q chk lo base news}
  (hr:(lf e m b aV q chk lo σ).run=ab ba) (hE:fC w γ.I e m news) (hn:news.length=m.length*e.size) (X:∀u∈news,u.oneCell'=true) (h0:0<=lo)
  (Y:∀bx (l:List e.den),σ.mem b=ab bx->bx.aV=aV->bx.buf=true->bx.val=.data (.slice e) l->q=[]->lo+m.length<=l.length)
  (Z:∀bx k (l:List e.den),σ.mem b=ab bx->bx.aV=aV->bx.buf=false->(nav q bx.val).run=ab (.data (.arr k e) l)->chk k e=true->lo+m.length<=k)
  (K:m=[]\/∃g c,γ.loc b=ab (g,c)/\base=ab ⟨g,eF q+lo.toNat*e.size,ah⟩) :
  ∃w',(match base with|some ad=>storeCells ad news|none=>pure ()).run P w=.ok () w'/\dK B N γ ba a w'/\Ext B γ σ.mem w γ ba.mem w':=by
 unfold lf at hr;split at hr
 case h_2=>cases hr
 rename_i bx hb;obtain⟨hcd,o⟩:=aJ hr;simp only[gw,zh] at hcd;obtain⟨⟨p,hlk⟩,hro⟩:=hcd;have p:=ja p;have s:=h.ok.boxes b bx hb;have G:m=[]->news=[]:=λU=>by subst U;simpa using hn
 have H:m=[]->(match base with|some ad=>storeCells ad news|none=>pure ()).run P w=.ok () w:=λU=>by
  rw[G U];cases base<;>rfl
 have r:∀g c f tid y,γ.loc b=ab (g,c)->w.heap[g]?=ab (.cells f tid y)->n6 f y->eF q+lo.toNat*e.size+news.length<=f.size ->
   (match base with|some ad=>storeCells ad news|none=>pure ()).run P w=.ok () (w.setRow g (bh f.toList (eF q+lo.toNat*e.size) news).toArray):=by
  intro g c f tid y hl V hth L;rcases K with U|⟨abf,c',hl',rfl⟩
  .rw[H U,G U];simp only[bh,zi,gj,FB,BR];rw[setRow_self w g f tid y V]
  .rw[hl] at hl';have:=dw (P:=P) g _ tid y news 0 f w V hth ai X
   grind
 split at o
 .rename_i j;split at o
  case h_2=>cases o
  rename_i u l D;split at o
  case h_2=>cases o
  rename_i E M;obtain rfl:=aR o;obtain⟨hq,O⟩:=mD M;subst hq;obtain rfl:E=m:=O;have L:=Y bx l hb p j D rfl;have hlen:=Jd h0 L;unfold fu at s;rw[j] at s;obtain⟨e2,l2,j1,j2,j3⟩:=s;rw[D] at j1;cases j1;have Q:({ bx with val:=.data (.slice e) (over l lo E) }:Box).row=bx.row:=by
   rw[Box.eu j D];exact(Box.eu (bx:=⟨.data (.slice e) _,bx.tid,bx.buf,bx.ro,bx.lk,bx.aV⟩) j rfl).trans (by rw[hlen])
  rcases j3 with ⟨J,R⟩|⟨g,t,f,tid,y,J,R,k3,z,k4,k5,k6,k7⟩
  .subst R;have hm0:E=[]:=by
    grind
   subst hm0;have e1:σ.ch b { bx with val:=.data (.slice e) (over ([]:List e.den) lo []) }=σ:=by
    have:({ bx with val:=.data (.slice e) (over ([]) lo []) }:Box)=bx:=by
     cases bx;subst D;simp[over]
    simp only[St.ch]
    congr 1
    funext i;by_cases hi:i=b
    .grind
    .simp[kr hi]
   rw[e1];exact⟨w,H rfl,h,Ext.refl _ _ _ _⟩
  .have n:eF ([])+lo.toNat*e.size+news.length<=f.size:=by
    have:(lo.toNat+E.length)*e.size<=t*e.size:=ic _ ai;rw[jc] at this;simp only[eF];omega
   have hst:=r g t f tid y J R k3.th n;have v:(bh f.toList (lo.toNat*e.size) news).toArray.size=f.size:=by have:=bT (by simp only[eF] at n;omega);simpa using this
   obtain⟨m1,m2⟩:=h.ok.write hb hro J R (cur':=(bh f.toList _ news).toArray) v Q
    (λw' cT W V=>by
     simp only[j];refine⟨e,_,rfl,j2,.inr ⟨g,t,_,tid,y,J,V,k3.same v,z,by rw[hlen];exact k4,k5,by rw[v];exact k6,?_⟩⟩;intro i x hx';have:=fC.over k7 hE hn h0 L (by show _<=f.size;rw[k6];exact ic _ k4) i x hx';simpa using bZ.mono W.I W.cells this)
   simp only[eF,BT] at hst;exact⟨_,hst,h.go m2 m1,m2⟩
 .rename_i j;obtain⟨old,F,S⟩:=bind_some o;split at S
  case h_2=>cases S
  rename_i k u l;obtain⟨hck,T⟩:=aJ S;split at T
  case h_2=>cases T
  rename_i E M;obtain⟨c,hs,hr5⟩:=bind_some T;obtain rfl:=aR hr5;obtain⟨hq,O⟩:=mD M;subst hq;obtain rfl:E=m:=O;unfold fu at s;rw[j] at s;obtain⟨g,t,f,tid,y,J,R,k3,z,k4⟩:=s;obtain⟨p1,p2⟩:=xX k4 F;obtain⟨r1,r2,r3⟩:=p2;have hll:lo+E.length<=(List.length l):=by rw[r1];exact(Z bx k l hb p j F hck)
  have aml:(lo.toNat+E.length)*e.size<=k*e.size:=ic _ ai;rw[jc] at aml;have n:eF q+lo.toNat*e.size+news.length<=f.size:=by have p1':eF q+k*e.size<=f.size:=p1;omega
  have A:((f.toList.drop _).take<|k*e.size).length=k*e.size:=r2;have C:lo.toNat*e.size+news.length<=((f.toList.drop<|eF q).take<|k*e.size).length:=ai;have amm:bZ w γ.I (.arr k e) (over l lo E) (bh ((f.toList.drop<|eF q).take<|k*e.size) (lo.toNat*e.size) news):=by
   refine⟨(Jd h0 hll).trans r1,by rw[bT C,A],?_⟩;exact fC.over r3 hE hn h0 hll (by rw[A];exact DW (by rw[r1]))
  have Q:=Ja (by rw[j];exact hs) λhp _=>by
   subst hp;rw[Box.rS j<|aR F];exact Box.rS j rfl
  have v:(bh f.toList (eF q+lo.toNat*e.size) news).toArray.size=f.size:=by have:=bT n;simpa using this
  obtain⟨m1,m2⟩:=h.ok.write hb hro J R (cur':=(bh f.toList _ news).toArray) v Q
   (λw' cT W V=>by
    simp only[j];refine⟨g,t,_,tid,y,J,V,k3.same v,z,?_⟩;have:=Ag (k4.ext W) F hs (bZ.mono W.I W.cells amm) (by rw[bT C,A];rfl);rw[(tT f.toList _ _ (k*e.size) news ai p1)] at this;simpa using this)
  exact⟨_,(r g t f tid y J R k3 n),h.go m2 m1,m2⟩
def F4{e L t V r}(h:dK B N γ σ a w)(hv:cM γ σ.mem w t .val [V])(M:(Hv e L t σ).run=ab r) :
  ∃g o,V=.slice g r.1.toNat o/\0<=r.1/\∀i,fC w γ.I e (L r.1) i->i.length=(L r.1).length*e.size->(∀u∈i,u.oneCell'=true)->(L r.1).length<=r.1.toNat ->
   ∃w',(match g with|some ad=>storeCells ad i|none=>pure ()).run P w=.ok () w'/\dK B N γ r.2 a w'/\Ext B γ σ.mem w γ r.2.mem w':=by
 unfold Hv at M;split at M
 .rename_i b G lo n;obtain⟨b6,f,H⟩:=bind_some M;obtain rfl:=aR H;have p:∃z,σ.mem b=ab z/\z.aV=G:=by
   unfold lf at f;split at f
   .rename_i z A;obtain⟨W,_⟩:=aJ f;simp_all
   .cases f
  obtain⟨z,A,v⟩:=p;obtain⟨e',k,Q,R,S,g5,g,o,g6,g7,g8,gF,T⟩:=bA A v hv.2;refine⟨g,o,by simpa using g6,S,λi X Y x Z=>?_⟩;refine wX h f X Y x R (λJ l C _ s m _=>?_) (λJ k' l C _ s F _=>?_) ?_
  .obtain rfl:=aR (A.symm.trans C);rw[Box.eu s m] at Q
   grind
  .obtain rfl:=aR (A.symm.trans C);have m:=aR F;rw[Box.rS s m] at Q
   grind
  .rcases T with T|⟨y,c,T,g10⟩
   .grind
   .by_cases hm:L n=[]
    .grind
    .right;have he:e'=e:=by
      unfold lf at f;rw[A] at f;obtain⟨_,j⟩:=aJ f;split at j
      .rename_i s;split at j
       case h_2=>cases j
       rename_i u l m;split at j
       case h_2=>cases j
       rename_i m' D;obtain⟨hq,_⟩:=mD D;rw[Box.eu s m] at Q
       grind
      .rename_i s;obtain⟨old,F,E⟩:=bind_some j;split at E
       case h_2=>cases E
       rename_i k' u l;obtain⟨_,K⟩:=aJ E;split at K
       case h_2=>cases K
       rename_i m' D;obtain⟨hq,_⟩:=mD D;have m:=aR F;rw[Box.rS s m] at Q
       grind
     subst he;exact⟨y,c,T,by rw[g10];simp[eF]⟩
 .rename_i b G;split at M
  case h_2=>cases M
  rename_i n O;obtain⟨b6,f,H⟩:=bind_some M;obtain rfl:=aR H;have p:∃z,σ.mem b=ab z/\z.aV=G:=by
   unfold lf at f;split at f
   .rename_i z A;obtain⟨W,_⟩:=aJ f;simp_all
   .cases f
  obtain⟨z,A,v⟩:=p;obtain⟨e',k,g1,Q,R⟩:=bA A v hv.2;have hbx:=h.ok.boxes b z A;have hl:∃l,z.val=.data (.slice e) l/\n=l.length:=by
   unfold lf at f;rw[A] at f;obtain⟨_,j⟩:=aJ f;split at j
   .split at j
    case h_2=>cases j
    rename_i u l hq0 m;split at j
    case h_2=>cases j
    rename_i m' D;obtain⟨hq,_⟩:=mD D;subst hq;refine⟨l,m,?_⟩;simp only[lenOf,A,v,g1,adW,m] at O;exact(aR O).symm
   .grind
  obtain⟨l,m,rfl⟩:=hl;rw[Box.eu g1 m] at Q;obtain⟨rfl,rfl⟩:=cg (aR Q);have fin:∀{g o},V=.slice g l.length o->(l.length=0\/∃y c,γ.loc b=ab (y,c)/\g=ab ⟨y,0,ah⟩) ->
    ∃g o,V=.slice g (l.length:Int).toNat o/\0<=l.length/\∀i,fC w γ.I e (L l.length) i->i.length=(L l.length).length*e.size->(∀u∈i,u.oneCell'=true)->(L l.length).length<=(l.length:Int).toNat ->
     ∃w',(match g with|some ad=>storeCells ad i|none=>pure ()).run P w=.ok () w'/\dK B N γ b6 a w'/\Ext B γ σ.mem w γ b6.mem w':=by
   intro g o htv hb0;refine⟨g,o,by simpa using htv,ai,λi X Y x Z=>?_⟩;refine wX h f X Y x ai (λJ l' C _ s ao1 _=>?_) (λJ k' l' C _ s F _=>?_) ?_
   .grind
   .grind
   .rcases hb0 with hb0|⟨y,c,q1,q2⟩
    .simp_all
    .right;exact⟨y,c,q1,by rw[q2];simp[eF]⟩
  rcases R with ⟨R,S⟩|⟨y,o,R,S⟩
  .obtain S:V=_:=by simpa using S
   rw[fu] at hbx
   grind
  .grind
 .rename_i b G q u k lo n;obtain⟨b6,f,H⟩:=bind_some M;obtain rfl:=aR H;have p:∃z,σ.mem b=ab z/\z.aV=G:=by
   unfold lf at f;split at f
   .rename_i z A;obtain⟨W,_⟩:=aJ f;simp_all
   .cases f
  obtain⟨z,A,v⟩:=p;obtain⟨hq,y,c,g1,R,S,g5,g,o,g6,g7,T⟩:=bA A v hv.2;refine⟨g,o,by simpa using g6,S,λi X Y x Z=>?_⟩;refine wX h f X Y x R (λJ l C _ s m hq0=>absurd hq0 hq) (λJ k' l C _ s F U=>?_) ?_
  .simp_all;omega
  .rcases T with T|g10
   .grind
   .by_cases hm:L n=[]
    .grind
    .right;have he:u=e:=by
      unfold lf at f;rw[A] at f;obtain⟨_,j⟩:=aJ f;split at j
      .split at j
       .grind
       .cases j
      .obtain⟨old,F,E⟩:=bind_some j;split at E
       case h_2=>cases E
       obtain⟨U,K⟩:=aJ E;split at K
       case h_2=>cases K
       rename_i m' D;obtain⟨hq',_⟩:=mD D;simp at U;exact(Ty.eq_of_beq U.2).trans hq'.symm
     grind
 .cases M
def Ml{I e m v}(h:B6 w I e m v) n (q:n<=m.length) :
  ∃b,(Builtin.firstCells e.size n v).run P w=.ok b.toArray w/\b.length=n*e.size/\(∀u∈b,u.oneCell'=true)/\fC w I e (m.take n) b/\(Builtin.lenOf v).run P w=.ok m.length w:=by
 rcases h with ⟨rfl,g,c,k,r,s⟩|⟨t,y,c,k,r,s,z⟩
 .obtain rfl:n=0:=by simpa using q
  subst k;refine⟨[],?_,aY,λu A=>absurd A aY,λi x f=>absurd f aY,rfl⟩;cases g with
  | none=>rfl
  | some C=>exact run_firstCells_some w e.size 0 C 0 c [] aY (λj v o=>by cases o)
 .obtain⟨b,p,D,E,F⟩:=EI (l:=m.take n) λi x f=>by
   rw[jU] at f;split at f
   .exact z i x f
   .cases f
  rw[km,yF q] at p;refine⟨b,?_,p,E,F,by rw[k];rfl⟩;rw[k];exact run_firstCells_some w e.size n _ m.length c b p (λj u o=>by rw[addr_add];exact D j u o)
def Mm{I s} n (h:n<=s.length) :
  ∃e,(Builtin.firstCells 1 n<|.string ⟨s.toArray⟩).run P w=.ok e.toArray w/\e.length=n/\(∀u∈e,u.oneCell'=true)/\fC w I (.int .u8) ((aC s).take n:List Int) e/\(Builtin.lenOf<|.string ⟨s.toArray⟩).run P w=.ok (aC s).length w:=by
 refine⟨(s.take n).map λb=>Value.int .u8 b.toNat,?_,by simp[h],λu l=>?_,λi x m=>?_,?_⟩
 .simp only[Builtin.firstCells];simp_all
 .obtain⟨_,_,rfl⟩:=Uk.1 l;rfl
 .have c:((aC s).take n)[i]?=ab x:=m;rw[jU] at c;split at c
  .rename_i o;simp only[aC,EC] at c;cases g:s[i]? with
   | none=>rw[g] at c;cases c
   | some b =>
     rw[g] at c;obtain rfl:_=x:=aR c;refine⟨?_,RY b⟩;apply Ls;intro j;rw[jU];split
     .rename_i f;obtain rfl:j=0:=by simp[Ty.size] at f;exact f
      simp[Ty.size,g,o]
     .rename_i f;obtain⟨k,rfl⟩:∃k,j=k+1:=⟨j-1,by simp[Ty.size] at f;omega⟩;simp
  .grind
 .simp[Builtin.lenOf,aC,ByteArray.size]
def zw s:(aC s).length=s.length:=uI ..
def aev{s n}(h:n<=(aC s).length):n<=s.length:=by rw[zw] at h;exact h
def Xy(i:bN B γ σ.mem w){e m x v}(f:cM γ σ.mem w x .val [v])(h:yI e σ x=ab m) n (g:n<=m.length) :
  ∃b,(Builtin.firstCells e.size n v).run P w=.ok b.toArray w/\b.length=n*e.size/\(∀u∈b,u.oneCell'=true)/\fC w γ.I e (m.take n) b/\(Builtin.lenOf v).run P w=.ok m.length w:=by
 unfold yI at h;split at h
 .rename_i t;obtain⟨q,j⟩:=mD h;subst q;subst j;obtain⟨k,_⟩:=yL f;rw[k];have c:n<=List.length t:=aev g;obtain⟨b,l,o,p,r,s⟩:=Mm n c;exact⟨b,l,by rw[o];simp[Ty.size],p,r,s⟩
 .exact Ml (tk i f h) n g
def Mn(C:fX P cx){u tx ty t x}(h:dK B N γ σ a w)(D:∀k,d=ab k->k<N)(c:(zn cx d u (dv σ t) (dv σ x) σ).run=ab ba) :
  oR P B N γ σ a w d (Builtin.copy_ #[u,tx] ty #[a.eval t,a.eval x]) ba:=by
 unfold zn at c;split at c
 case h_2=>cases c
 rename_i e E;split at c
 case h_1=>cases c
 rename_i m f;obtain⟨r,l,n⟩:=bind_some c;obtain rfl:=aR n;obtain⟨F,G,H,W,X⟩:=(C.T _ _ E).slice;obtain⟨g,o,I,Y,J⟩:=F4 (P:=P) h (h.dv t) l;have hlen:(jd m r.1).length=Nat.min m.length r.1.toNat:=by
  simp only[jd,km];apply Nat.min_comm
 obtain⟨i,K,L,M,y,O⟩:=Xy (P:=P) h.ok (h.dv x) f _ (Nat.min_le_left _ _);have b:(m.take<|Nat.min m.length r.1.toNat)=jd m r.1:=by
  simp only[jd]
  grind
 rw[b] at y;obtain⟨w',j,Q,R⟩:=J i y (by rw[L,hlen]) M (by rw[hlen];apply Nat.min_le_right);have z:(jd m r.1).length<=maxLen:=by
  rcases ZH (jd m r.1).length with S|S
  .omega
  .rw[hlen];refine jb (Nat.min_le_left _ _) ?_;have hv:=h.dv x;unfold yI at f;split at f
   .rename_i s U;obtain⟨q,V⟩:=mD f;subst q;subst V;rw[U] at hv;obtain⟨_,A⟩:=yL hv;exact jb (DW<|zw s) A
   .rcases tk h.ok hv f with ⟨rfl,_⟩|⟨_,_,o,_,A,Z,_⟩
    .grind
    .grind
 refine⟨goInt (jd m r.1).length,w',γ,?_,?_,?_⟩
 .have p:=H.sizeOf w;simp only[Builtin.copy_,I];simp only[aiJ,aiH,adw,Sem.run_bind,run_underlying G,Result.andThen_ok,O,p,K,hlen];cases g with
  | none=>injection j with _ j;subst j;rfl
  | some ad=>simp only[Sem.run_bind,j,Result.andThen_ok,Sem.run_pure]
 .have h9:maxLen<=IntKind.i64.max:=aK;have h8:IntKind.i64.min<=0:=aK;have:=Q.wT D (v:=.data (.int .i64) (len _)) (val:=goInt (jd m r.1).length) (mkInt ⟨by simp only[len];omega,by simp only[len];omega⟩)
  grind
 .cases d<;>exact R
def Kc(q:fX P cx){n ty t}(h:dK B N γ σ a w)(g:(zo cx n (dv σ t) σ).run=ab ba) :
  oR P B N γ σ a w ah (Builtin.clear_ #[n] ty #[a.eval t]) ba:=by
 unfold zo at g;split at g
 case h_2=>cases g
 rename_i e s;obtain⟨r,k,l⟩:=bind_some g;obtain rfl:=aR l;obtain⟨v,y,A,L,C⟩:=(q.T _ _ s).slice;obtain⟨c,D,E,M,F⟩:=F4 (P:=P) h (h.dv t) k;have hlen:(kn r.1 e.zero).length=r.1.toNat:=by simp[kn]
 obtain⟨z,O,o⟩:=A.zero w;have f:=oP w γ.I (.arr r.1.toNat e);have j:(Builtin.zeroCells z.cells r.1.toNat).toList=gE (.arr r.1.toNat e):=by
  have m:z.cells.size=e.size:=by rw[<-eD e,<-o];simp
  rw[<-(wW o C r.1.toNat)];simp only[Builtin.zeroCells,madeCells,m]
 obtain⟨w',b,G,H⟩:=F _ (λi x J=>f.2.2 i x J) (by rw[eD,hlen];rfl) (λu K=>f.one u K) (DW hlen);refine⟨.tuple #[],w',γ,?_,G,H⟩;simp only[Builtin.clear_,E];simp only[aiJ,aiH,Sem.run_bind,run_underlying y];cases c with
 | none=>injection b with _ b;subst b;rfl
 | some Q =>
   by_cases p:r.1.toNat=0
   .have:gE (.arr r.1.toNat e)=[]:=aiA (by rw[eD];simp[Ty.size,p]);rw[this] at b;injection b with _ b
    rw[p];simp_all
   .simp_all
def F5{least p q r u v}(h:cM γ σ.mem w p .val [u])(i:cM γ σ.mem w q .val [v])(f:(RL least p q).run=ab r) :
  ∃z,((if least then Builtin.min2 u v else Builtin.max2 u v)).run P w=.ok z w/\cM γ σ.mem w r .val [z]:=by
 unfold RL at f;split at f
 .rename_i k n l m;obtain⟨j,g⟩:=aJ f;obtain rfl:=zl j;obtain rfl:=aR g;obtain⟨rfl,c⟩:=vj h;obtain⟨rfl,e⟩:=vj i;have cmp:∀n m,k.min<=n/\n<=k.max->k.min<=m/\m<=k.max->cM γ σ.mem w (.data (.int k)<|ai2 n m) .val [.int k<|if m<n then m else n]/\cM γ σ.mem w (.data (.int k)<|imax n m) .val [.int k<|if m > n then m else n]:=by
   intro n m c e;constructor
   .unfold ai2;by_cases b:m<n
    .simp only[b];exact mkInt e
    .simp only[b,adX,FA];exact mkInt c
   .unfold imax;by_cases b:n<m
    .simp only[b];exact mkInt e
    .simp only[b];exact mkInt c
  cases least with
  | true=>exact⟨_,rfl,(cmp n m c e).1⟩
  | false=>exact⟨_,rfl,(cmp n m c e).2⟩
 .cases f
end
end Go.Ge
namespace Go.Ge
open RowKit
section
variable {P:Program} {B:BI} {N:Nat} {γ:Gh} {σ ba:St} {a:Act} {w w':World} {d:Option Nat} {cx:Ctx} {nb:Nat} {bf:List Nat} {inl:Nat->List cA->St->Tree (cA×St)}
def R5{f:Operand->cA}{l x}(h:l.map f=[x]):∃o,l=[o]/\f o=x:=by
 simp_all
def KZ{f:Operand->cA}{l x y}(h:l.map f=[x,y]):∃o p,l=[o,p]/\f o=x/\f p=y:=by
 cases l with
 | nil=>cases h
 | cons o r =>
   obtain⟨p,b,c⟩:=R5 (by simp at h⊢;exact h.2)
   grind
def fZ{b:Type}{a:Array b}{l}(h:a.toList=l):a=l.toArray:=by rw[<-h]
def abm{α}(k:Value->Array Value->Sem α) x b:(match(#[x]++b)[0]? with|some recv=>k recv ((#[x]++b).extract 1 (#[x]++b).size)|x=>stuck "call: a method without a receiver")=k x b.toList.toArray:=by
 have c:(#[x]++b)[0]?=ab x:=by rw[<-ady,ZF];rfl
 simp_all
def Xz(O:fX P cx)(J:rb P B.G cx)(Z:x4 P B.G inl){o:Oper}{c}(F:o.op=.call c)(h:dK B N γ σ a w)(L:∀k,o.dst=ab k->k<N)
  (l:(wR cx nb bf inl o.dst o.type c σ).run=ab ba) {K} {Q} (H:F3 B N γ σ a w o.dst ba K):o.wp P a w K Q:=by
 unfold wR at l;split at l
 .rename_i b g;split at l
  ·
   rename_i x t A M;obtain⟨p,m,rfl⟩:=R5 A;cases R:ZW _ _ with
   | false =>
     rw[R] at l;simp at l;split at l
     .rename_i e b aV q u k lo n he A;obtain⟨hl,j⟩:=aJ l;simp at hl;obtain rfl:=aR j;obtain⟨bx,hbx,C⟩:=lg hl.1;have hv:=h.dv p;rw[A] at hv;obtain⟨_,S,c',g1,g2,g3,g4,base,cap,g5,g6,g7⟩:=bA hbx C hv.2;refine b9 (s:=Builtin.len_ c.argTypes o.type (c.args.map a.eval)) ?_ (bV h L (x:=.int .i64 n) ?_<|mkInt ⟨Int.le_trans aK g3,Int.le_trans hl.2 aK⟩) H
      .unfold execOp;simp only[F,resolve,g,invoke,builtin];rfl
      .rw[fZ m,fZ M,show Array.map a.eval [p].toArray=#[a.eval p] from aY,g5];simp[Builtin.len_,run_underlying (Ai O he).1,adF g3];rfl
     .exact absurd l cm
   | true =>
   have j:(match lenOf σ (dv σ p) with|some n=>Tree.ret (σ.bD o.dst<|.data (.int .i64) n)|none=>.fail).run=ab ba:=by rw[R] at l;exact l
   split at j
   .rename_i n hn;obtain rfl:=aR j;obtain⟨l1,l2⟩:=UK O h.ok (h.dv p) R hn;refine b9 (s:=Builtin.len_ c.argTypes o.type (c.args.map a.eval)) ?_ (bV h L ?_<|mkInt l2) H
    .unfold execOp;simp only[F,resolve,g,invoke,builtin];rfl
    .rw[fZ m,fZ M,show Array.map a.eval [p].toArray=#[a.eval p] from aY];exact l1
   .exact absurd j cm
  .rename_i s x t u A M;obtain⟨os,p,m,rfl,rfl⟩:=KZ A;have key:(∃e,P.underlying u=ab (.slice e))\/P.underlying u=ab .string->(je cx nb o.dst t (dv σ os) (dv σ p) σ).run=ab ba->o.wp P a w K Q:=by
    intro hk j;refine b9 (s:=Builtin.append_ c.argTypes o.type (c.args.map a.eval)) ?_ ?_ H
    .unfold execOp;simp only[F,resolve,g,invoke,builtin];rfl
    .rw[fZ m,fZ M,show Array.map a.eval [os,p].toArray=#[a.eval os,a.eval p] from aY];exact HK O h L hk j
   split at l
   .rename_i hu;exact key (.inr (O.T _ _ hu).str) l
   .rename_i e hu;obtain⟨eid,f1,_⟩:=(O.T _ _ hu).slice
    grind
   .exact absurd l cm
  .rename_i t x tt tx A M;obtain⟨X,p,m,rfl,rfl⟩:=KZ A;have key:(zn cx o.dst tt (dv σ X) (dv σ p) σ).run=ab ba->o.wp P a w K Q:=by
    intro j;refine b9 (s:=Builtin.copy_ c.argTypes o.type (c.args.map a.eval)) ?_ ?_ H
    .unfold execOp;simp only[F,resolve,g,invoke,builtin];rfl
    .rw[fZ m,fZ M,show Array.map a.eval [X,p].toArray=#[a.eval X,a.eval p] from aY];exact Mn O h L j
   split at l
   .grind
   .grind
   .exact absurd l cm
  .rename_i t tt A M;obtain⟨X,m,rfl⟩:=R5 A;split at l
   .rename_i amo;refine b9 (s:=Builtin.clear_ c.argTypes o.type (c.args.map a.eval)) ?_ ?_ H
    .unfold execOp;simp only[F,resolve,g,invoke,builtin];rfl
    .rw[fZ m,fZ M,show Array.map a.eval [X].toArray=#[a.eval X] from aY,amo];exact Kc O h l
   .exact absurd l cm
  .rename_i x y A;obtain⟨p,oy,m,rfl,rfl⟩:=KZ A;obtain⟨v,Y,j⟩:=bind_some l;obtain rfl:=aR j;obtain⟨z,z1,z2⟩:=F5 (P:=P) (h.dv p) (h.dv oy) Y;refine b9 (s:=Builtin.min_ c.argTypes o.type (c.args.map a.eval)) ?_ (bV h L (x:=z) ?_ z2) H
   .unfold execOp;simp only[F,resolve,g,invoke,builtin];rfl
   .rw[fZ m,show Array.map a.eval [p,oy].toArray=#[a.eval p,a.eval oy] from aY];simp at z1;simp[Builtin.min_,z1]
  .rename_i x y A;obtain⟨p,oy,m,rfl,rfl⟩:=KZ A;obtain⟨v,Y,j⟩:=bind_some l;obtain rfl:=aR j;obtain⟨z,z1,z2⟩:=F5 (P:=P) (h.dv p) (h.dv oy) Y;refine b9 (s:=Builtin.max_ c.argTypes o.type (c.args.map a.eval)) ?_ (bV h L ?_ z2) H
   .unfold execOp;simp only[F,resolve,g];rfl
   .rw[fZ m];simp at z1;simp[Builtin.max_,z1]
  .exact absurd l cm
 .rename_i f g;split at l
  .rename_i fid D hf;obtain⟨U,j⟩:=aJ l;have hv:=h.dv f;rw[hf] at hv;obtain⟨arr,v1,v2,v3⟩:=hv;obtain v1:=BQ v1;have V:nz γ σ.mem w (D.map λb=>.ptr b.1 b.2 []) arr.toList:=by
    refine⟨by simpa using v2,λi v x W h2=>?_⟩;rw[EC] at W;cases hi:D[i]? with
    | none=>rw[hi] at W;cases W
    | some bv =>
      rw[hi] at W;obtain rfl:=aR W;have hl:=vR.1 U bv (eT hi);obtain⟨bx,Y,C⟩:=lg hl;obtain⟨S,cap,g1,g2⟩:=bA Y C (v3 i bv.1 bv.2<|by rw[hi]);have A:x=.pointer (ab ⟨S,0,ah⟩):=by
       grind
      subst A;exact⟨⟨_,rfl,rfl⟩,bx,Y,DW C.symm,λ_=>⟨S,cap,g1,rfl⟩⟩
   have E:nz γ σ.mem w (c.args.toList.map (dv σ)++D.map λb=>.ptr b.1 b.2 []) (c.args.map a.eval++arr).toList:=by
    rw[ZF,adK];exact(Qu h).append V
   refine Mk ?_ (OY J Z h L E j H);unfold execOp;simp only[F,resolve,g,Deferred.ofValue,v1,invoke];simp
  .exact absurd l cm
 ·
  rename_i r name g;unfold ti at l;split at l
  .rename_i cn hcn;split at l
   .rename_i x b6 A;obtain⟨y,hy,j⟩:=cp l;obtain rfl:=aR j;have E:nz γ σ.mem w (dv σ r::c.args.toList.map (dv σ)) (a.eval r::(c.args.map a.eval).toList):=by
     rw[adK];exact Qu (ops:=r::c.args.toList) h
    obtain⟨γ1,s1,s2,s3⟩:=tU h E A;obtain⟨f,u,e1,e2,e3⟩:=J.inv name cn hcn γ1.I w _ _ x y (λb o hi=>s1.ok.vG b o hi) s1.ok.RQ s3 hy;refine Mk ?_ ⟨e2,e3.mono λe w' hw=>?_⟩
    .rw[<-e1];unfold execOp;simp only[F,resolve,g];exact congrArg (λz:Sem Next=>z.run P w) (abm _ _ _)
    .obtain⟨v,I',W,h2,h3,h4,h5,h6⟩:=hw;refine⟨v,W,?_⟩;obtain⟨m1,m2⟩:=s1.ok.far (I':=I') h2 h3 h4 h5;refine H ⟨I',γ1.loc⟩ _ w' (s1.bD m2 m1 L<|h6.rep λ_ _ hi=>hi) ?_;cases o.dst<;>exact s2.trans m2
   .exact absurd l cm
  .exact absurd l cm
def UL{I tid u}:∀{t a f},Den P t tid->Us t u=ab ⟨a,f⟩ ->
  P.concrete u=true/\∀y c,bZ w I a y c->bZ w I t (f y) [.iface u<|cY a c]:=by
 intro t;induction t with
 | alt n a r m e =>
   intro b f i h;unfold Us at h;obtain⟨l,o⟩:=i.rest;cases j:Nat.beq n u with
   | true =>
     rw[j] at h;obtain rfl:=ja j;cases h;exact⟨o,λy c k=>⟨l.aef i,c,rfl,k⟩⟩
   | false =>
     rw[j] at h;split at h
     .rename_i v g p;cases h;obtain⟨q,s⟩:=e l p;exact⟨q,λy c k=>s y c k⟩
     .cases h
 | _=>intro b f i h;cases h
def aha{tid u t a f}(c:Den P t tid)(h:Us t u=ab ⟨a,f⟩):t.isAgg=false:=by
 cases t with
 | alt n b r=>simp only[Den,fe,gw] at c;exact(Ty.LW c.2).2
 | _=>cases h
def Kd(m:fX P cx){ty u x}(h:dK B N γ σ a w)(n:∀k,d=ab k->k<N)(c:(tg cx d ty u (dv σ x) σ).run=ab ba) :
  oR P B N γ σ a w d (Instr.makeInterface u<|a.eval x) ba:=by
 unfold tg at c;split at c
 .rename_i t o;have e:=m.T _ _ o;split at c
  .rename_i b f j;split at c
   .rename_i y b6 p;obtain rfl:=aR c;obtain⟨g,q,r,l,s,v⟩:=n9 h (h.dv x) p;obtain⟨z,A⟩:=UL e j;have i:a.eval x=cY b l:=by simpa using v
    have C:=aha e j;refine⟨.iface u _,w,g,run_makeInterface w u _ z,q.wT n ⟨_,A y l s,?_⟩,?_⟩
    .rw[i];unfold cY
     grind
    .cases d<;>exact r
   .exact absurd c cm
  .exact absurd c cm
 .exact absurd c cm
def UM{o s K Q}(c:execOp a.eval o=(do s;pure .skip))(b:o.dst=ah)
  (h:∃w' bK,s.run P w=.ok () w'/\dK B N bK ba a w'/\Ext B γ σ.mem w bK ba.mem w') (e:F3 B N γ σ a w o.dst ba K):o.wp P a w K Q:=by
 obtain⟨w',bK,f,g,i⟩:=h;unfold Oper.wp;rw[c];simp only[Sem.run_bind,f];exact e bK _ w' (by rw[b];exact g) i
def x6{d k}(h:ownRow bf d=ab k):d=ab k:=by
 unfold ownRow at h
 grind
def EN{d k}(h:Ur bf d=ab k):d=ab k/\dz bf k=true:=by
 unfold Ur at h
 grind
def Mo(A:fX P cx)(O:rb P B.G cx)(R:x4 P B.G inl){o:Oper}(h:dK B N γ σ a w)(r:∀k,o.dst=ab k->k<N)
  (g:(rK cx nb bf inl o σ).run=ab ba) {K Q} (C:F3 B N γ σ a w o.dst ba K):o.wp P a w K Q:=by
 unfold rK at g;split at g
 case h_1 x j=>exact b9 (by simp only[execOp,j];rfl) (zt A h r g) C
 case h_2 x j=>exact b9 (by simp only[execOp,j];rfl) (zt A h r g) C
 case h_3 c x y j=>exact b9 (by simp only[execOp,j];simp) (L7 h r g) C
 case h_4 elem j =>
  split at g
  .rename_i k t D F;rw[D] at r;refine b9 (s:=Instr.alloc elem true (.tuple #[])) (by simp only[execOp,j]) ?_ C;rw[D];exact J7 A h (r k rfl) F g
  .rename_i k D F;rw[D] at r;refine b9 (s:=Instr.alloc elem true (.tuple #[])) (by simp only[execOp,j]) ?_ C;rw[D];split at g
   .rename_i fs X;exact J6 A h (r k rfl) X g
   .obtain⟨Y,m⟩:=aJ g;exact J5 A h (r k rfl) Y m
  .exact absurd g cm
 case h_5 elem x j =>
  unfold FD at g;split at g
  .exact absurd g cm
  .exact absurd g cm
  .rename_i k D Y h2;rw[D] at r;refine b9 (s:=Instr.box elem (a.eval x)) (by simp only[execOp,j]) ?_ C;rw[D];split at g
   .exact OQ h (r k rfl) Y h2 g
   .exact abh h (r k rfl) Y h2 g
  .exact absurd g cm
 case h_6 t parts j =>
  refine b9 (s:=Instr.build t (parts.map λ(i,x)=>(i,a.eval x))) (by simp only[execOp,j]) ?_ C;split at g
  .rename_i u v F;split at g
   .rename_i x b6 E;obtain rfl:=aR g;exact EJ A h r F E
   .exact absurd g cm
  .rename_i n e F;split at g
   .rename_i l b6 E;obtain rfl:=aR g;exact FZ A h r F E
   .exact absurd g cm
  .split at g
   .rename_i fs X;split at g
    .rename_i z0 S;split at g
     .rename_i p q E;obtain rfl:=aR g;exact J9 A h r X S E
     .rename_i u E;obtain rfl:=aR g;exact HG A h r X S E
     .exact absurd g cm
    .exact absurd g cm
   .exact absurd g cm
  .exact absurd g cm
 case h_7 t n parts j =>
  refine b9 (s:=Instr.buildSlice t n (parts.map λ(i,x)=>(i,a.eval x))) (by simp only[execOp,j]) ?_ C;split at g
  .rename_i e F;split at g
   .rename_i k T I;obtain⟨D,_⟩:=EN T;have hp:parts=#[]:=by simpa using I
    rw[D,hp];rw[D] at r;rw[Array.map_empty];exact HI A h (r k rfl) F g
   .obtain⟨Z,m⟩:=aJ g;split at m
    .rename_i l b6 E;split at m
     .rename_i k D;have hk':=x6 D;rw[hk'] at r⊢;exact Md A h (r k rfl) F Z E m
     .obtain rfl:=aR m;exact HH A h r F Z E
    .exact absurd m cm
  .exact OS A h r g
  .exact absurd g cm
 case h_8 t x j=>exact b9 (by simp only[execOp,j]) (Ma A h r g) C
 case h_9 t x y j =>
  split at g
  .rename_i D;exact UM (by simp only[execOp,j]) D (J4 A h g) C
  .exact absurd g cm
 case h_10 x j =>
  have hv:=h.dv x;have fin:∀{v y},a.eval x=y->execOp a.eval o=(do pure<|.value (<-pure y))->cM γ σ.mem w v .val [y]->ba=σ.bD o.dst v->o.wp P a w K Q:=by
   intro v y he hs hr0 hσ;subst hσ;exact b9 hs (bV h r rfl hr0) C
  split at g
  .rename_i b aV p J;rw[J] at hv;obtain⟨hl,m⟩:=aJ g;obtain⟨bx,E,U⟩:=lg hl;obtain⟨blk,cap,H,M⟩:=bA E U hv.2;have M:=BQ M;rw[M] at hv;exact fin M (by simp only[execOp,j,M];rfl) hv (aR m).symm
  .rename_i t y J;rw[J] at hv;obtain⟨blk,off,cs,H,M,g3⟩:=id hv;have H:=BQ H;rw[H] at hv;exact fin H (by simp only[execOp,j,H];rfl) hv (aR g).symm
  .rename_i f c J;rw[J] at hv;obtain⟨arr,H,M,g3⟩:=id hv;have H:=BQ H;rw[H] at hv;exact fin H (by simp only[execOp,j,H];rfl) hv (aR g).symm
  .exact absurd g cm
 case h_11 op xt x y pos j =>
  obtain⟨v,E,m⟩:=bind_some g;obtain rfl:=aR m;obtain⟨z,V,W⟩:=Xp A (h.dv x) (h.dv y) E;refine b9 (s:=iz op xt x y _ _) (by simp only[execOp,j,iz]) (bV h r V W) C
 case h_12 op ty x j =>
  obtain⟨v,E,m⟩:=bind_some g;obtain rfl:=aR m;obtain⟨z,V,W⟩:=aej (h.dv x) E;exact b9 (by simp only[execOp,j]) (bV h r V W) C
 case h_13 src dst x j=>exact b9 (by simp only[execOp,j]) (F1 A h r g) C
 case h_14 f first ako j =>
  split at g
  .rename_i cs L hcs;obtain rfl:=aR g;refine b9 ?_ (Mb h r hcs) C;have:first=#[]:=by simpa using L
   simp only[execOp,j,this,show Array.map a.eval #[]=#[] from aY]
  .exact absurd g cm
 case h_15 t x lo hi j=>exact b9 (by simp only[execOp,j];rfl) (J3 A h r g) C
 case h_16 s x k j=>exact b9 (by simp only[execOp,j]) (DK A h r g) C
 case h_17 xt x k j =>
  have hv:=h.dv x;split at g
  .rename_i u y J;rw[J] at hv;obtain⟨F,m⟩:=aJ g;split at m
   .rename_i off v hf;obtain rfl:=aR m;obtain⟨z,V,W⟩:=UC A (jN F) hv hf;exact b9 (by simp only[execOp,j]) (bV h r V W) C
   .exact absurd m cm
  .exact absurd g cm
 case h_18 t x i j =>
  split at g
  .rename_i ki n hi;have hv:=h.dv i;rw[hi] at hv;obtain⟨ei,_⟩:=vj hv;refine b9 (s:=Instr.indexAt t (a.eval x) (a.eval i)) (by simp only[execOp,j]) ?_ C;rw[ei];cases hm:dz bf 5000000 with
   | true=>rw[hm] at g;exact J1 A h r g
   | false=>rw[hm] at g;exact vH A h r g
  .exact absurd g cm
 case h_19 t x i j =>
  split at g
  .rename_i ki n hi;have hv:=h.dv i;rw[hi] at hv;obtain⟨ei,_⟩:=vj hv;refine b9 (s:=Instr.index t (a.eval x) (a.eval i)) (by simp only[execOp,j]) ?_ C;rw[ei];exact J2 A h r g
  .exact absurd g cm
 case h_20 t l c j =>
  split at g
  .rename_i k e kl ln kc cn D F hl hcc;rw[D] at r;obtain⟨Z1,m⟩:=cP g;obtain⟨hf,hr3⟩:=cP m;refine b9 (s:=Instr.makeSlice t (a.eval l) (a.eval c)) (by simp only[execOp,j]) ?_ C;rw[D];exact Ka A h (r k rfl) F hl hcc Z1 hf hr3
  .exact absurd g cm
 case h_21 t k j =>
  split at g
  .rename_i vs J;split at g
   .rename_i v Z;obtain rfl:=aR g;exact b9 (by simp only[execOp,j]) (OR h r J Z) C
   .exact absurd g cm
  .exact absurd g cm
 case h_22 c j=>exact Xz A O R j h r g C
 case h_23 u x j=>exact b9 (by simp only[execOp,j]) (Kd A h r g) C
 case h_24=>exact absurd g cm
end
end Go.Ge
namespace Go.Ge
open RowKit
def b8(f c:St):Prop:=∀b e,f.mem b=ab e->e.lk=true->c.mem b=ab e
def b8.refl σ:b8 σ σ:=λ_ _ h _=>h
def b8.trans{σ ba c}(h:b8 σ ba)(k:b8 ba c):b8 σ c:=λb bx f e=>k b bx (h b bx f e) e
def b8.put σ d v:b8 σ (σ.put d v):=λ_ _ h _=>h
def b8.bD σ d v:b8 σ (σ.bD d v):=by cases d<;>exact λ_ _ h _=>h
def b8.aew{σ ba}(h:ba.mem=σ.mem):b8 σ ba:=λb e c _=>by rw[h];exact c
def jY{σ b j}(h:∀f,σ.mem b=ab f->f.lk=false):b8 σ (σ.ch b j):=λc cx g i=>by
 by_cases e:c=b
 .subst e;rw[h cx g] at i;cases i
 .rw[wV,bg _ e];exact g
def oc{β σ b val tid buf}{k:Nat->St->Tree β}{y}(h:(σ.bF b val tid buf k).run=ab y) :
  ∃aV,b8 σ (σ.ch b { val,tid,buf,ro:=false,lk:=false,aV })/\(k aV<|σ.ch b { val,tid,buf,ro:=false,lk:=false,aV }).run=ab y:=by
 unfold St.bF at h;split at h
 .rename_i i e;cases f:i.lk with
  | true=>rw[f] at h;cases h
  | false =>
    rw[f] at h;exact⟨i.aV+1,jY (λg c=>by rw[e] at c;obtain rfl:=aR c;exact f),h⟩
 .rename_i e;exact⟨0,jY (λg c=>by rw[e] at c;cases c),h⟩
def Je{σ ba b}(h:freeze σ b=ab ba):b8 σ ba:=by
 unfold freeze at h;split at h
 .rename_i f i;cases c:f.ro with
  | true=>simp only[c,z6,Lt] at h;rw[<-h];apply b8.refl
  | false =>
    cases e:f.lk with
    | true=>simp[c,e] at h
    | false =>
      simp only[c,e,FA,Lt] at h;rw[<-h];exact jY λj g=>by rw[i] at g;obtain rfl:=aR g;exact e
 .cases h
def R6:∀{v σ ba},jx σ v=ab ba->b8 σ ba:=by
 intro v;induction v with
 | mix p q c e =>
   intro σ ba h;obtain⟨b6,f,g⟩:=xY h;exact(c f).trans (e g)
 | whole b aV=>intro σ ba h;exact Je h
 | part b aV lo n=>intro σ ba h;exact Je h
 | _=>intro σ ba h;obtain rfl:=aR h;apply b8.refl
def re{t x v σ ba}(h:BW σ t v=ab (x,ba)):b8 σ ba:=by
 unfold BW at h;split at h
 .split at h
  .obtain⟨_,rfl⟩:=cg (aR h);apply b8.refl
  .cases h
 .split at h
  .rename_i y b6 c b;obtain⟨_,rfl⟩:=cg (aR h);exact R6 b
  .cases h
def rU:∀{A x vs σ ba},l6 σ A vs=ab (x,ba)->b8 σ ba:=by
 intro A;induction A with
 | pair t r e c =>
   intro x vs σ ba b;cases vs with
   | nil=>cases b
   | cons v vs =>
     simp only[l6] at b;split at b
     .rename_i p b6 f;split at b
      .rename_i q cQ g;obtain⟨_,rfl⟩:=cg (aR b);exact(re f).trans (c g)
      .cases b
     .cases b
 | unit =>
   intro x vs σ ba b;cases vs with
   | nil=>obtain⟨_,rfl⟩:=cg (aR b);apply b8.refl
   | cons v vs=>cases b
 | _=>intro x vs σ ba b;cases vs<;>cases b
def Ke{t}:∀{parts x b σ ba},hJ σ t x parts=ab (b,ba)->b8 σ ba:=by
 intro parts;induction parts with
 | nil=>intro x b σ ba h;obtain⟨_,rfl⟩:=cg (aR h);apply b8.refl
 | cons p r c =>
   intro x b σ ba h;simp only[hJ] at h;split at h
   .split at h
    .rename_i e;split at h
     .exact(re e).trans (c h)
     .cases h
    .cases h
   .cases h
def wY{e}:∀{parts l c σ ba},fU σ e l parts=ab (c,ba)->b8 σ ba:=by
 intro parts;induction parts with
 | nil=>intro x i σ ba h;obtain⟨_,rfl⟩:=cg (aR h);apply b8.refl
 | cons p r f =>
   obtain⟨k,o⟩:=p;intro l c σ ba h;simp only[fU] at h;split at h
   .rename_i g;cases b:Nat.blt k l.length with
    | false=>rw[b] at h;cases h
    | true=>rw[b] at h;exact(re g).trans (f h)
   .cases h
def F6{b aV p fit u σ ba}(e:(storeAt b aV p fit u σ).run=ab ba):b8 σ ba:=by
 unfold storeAt at e;split at e
 case h_2=>exact absurd e cm
 rename_i q m;obtain⟨j,f⟩:=aJ e;simp at j;obtain⟨n,r,g⟩:=bind_some f;obtain⟨k,h⟩:=aJ g;obtain⟨c,s,i⟩:=bind_some h;obtain rfl:=aR i;exact jY λo l=>by rw[m] at l;obtain rfl:=aR l;exact j.1.2
def R7{b aV p n u σ ba}(e:(tO b aV p n u σ).run=ab ba):b8 σ ba:=by
 unfold tO at e;split at e
 case h_2=>exact absurd e cm
 rename_i t o;obtain⟨k,f⟩:=aJ e;simp at k;obtain⟨q,v,g⟩:=bind_some f;obtain⟨l,h⟩:=aJ g;obtain⟨c,x,i⟩:=bind_some h;obtain⟨r,j⟩:=aJ i;obtain rfl:=aR j;exact jY λs m=>by rw[o] at m;obtain rfl:=aR m;exact k.1.1.1.2
def Mp{cx bf ty x y σ ba}(e:(mZ cx bf ty x y σ).run=ab ba):b8 σ ba:=by
 unfold mZ at e;split at e
 case h_2=>exact absurd e cm
 split at e
 case h_2=>exact absurd e cm
 obtain⟨g,f⟩:=aJ e;obtain⟨i,l,c⟩:=bind_some f;split at c
 .rename_i u _;obtain⟨j,b⟩:=aJ c;cases h:dz bf 8000000&&ad8 u y with
  | true=>rw[h] at b;exact R7 b
  | false =>
  rw[h] at b;split at b
  .rename_i k;exact(re k).trans (F6 b)
  .exact absurd b cm
 .obtain⟨j,b⟩:=aJ c;exact F6 b
def Bh{cx nb d ty s x σ ba}(b:(je cx nb d ty s x σ).run=ab ba):b8 σ ba:=by
 unfold je at b;split at b
 case h_2=>exact absurd b cm
 split at b
 case h_2=>exact absurd b cm
 split at b
 .obtain⟨h,c⟩:=cP b;obtain⟨i,j,k⟩:=oc c;obtain rfl:=aR k;exact j.trans (b8.put _ _ _)
 .split at b
  case h_2=>exact absurd b cm
  rename_i o l m p;obtain⟨e,f⟩:=Ak b;obtain⟨h,c⟩:=cP f;obtain rfl:=aR c;exact(jY λn g=>by rw[m] at g;obtain rfl:=aR g;exact((OM.1 e).1)).trans (b8.put _ _ _)
 .exact absurd b cm
def yO{e m b aV q chk lo σ ba}(i:(lf e m b aV q chk lo σ).run=ab ba):b8 σ ba:=by
 unfold lf at i;split at i
 case h_2=>exact absurd i cm
 rename_i r n;obtain⟨k,f⟩:=aJ i;simp at k;have fin:∀{vf},b8 σ (σ.ch b vf):=λ{vf}=>jY λo l=>by rw[n] at l;obtain rfl:=aR l;exact k.1.2
 split at f
 .split at f
  .split at f
   .obtain rfl:=aR f;exact fin
   .exact absurd f cm
  .exact absurd f cm
 .obtain⟨p,_,g⟩:=bind_some f;split at g
  .obtain⟨_,h⟩:=aJ g;split at h
   .obtain⟨c,_,j⟩:=bind_some h;obtain rfl:=aR j;exact fin
   .exact absurd h cm
  .exact absurd g cm
def Jf{e g t σ r}(b:(Hv e g t σ).run=ab r):b8 σ r.2:=by
 unfold Hv at b;split at b
 .obtain⟨b6,c,f⟩:=bind_some b;obtain rfl:=aR f;exact yO c
 .split at b
  .obtain⟨b6,c,f⟩:=bind_some b;obtain rfl:=aR f;exact yO c
  .exact absurd b cm
 .obtain⟨b6,c,f⟩:=bind_some b;obtain rfl:=aR f;exact yO c
 .exact absurd b cm
def XA{σ}:∀{ps A U vs x u ns},tP σ ps A U vs=ab (x,u,ns)->∀b∈ns,∀f,σ.mem b=ab f->f.lk=false:=by
 intro ps;induction ps with
 | nil =>
   intro A U vs x u ns h;cases A<;>first|(cases h;done)|skip
   cases U<;>first|(cases h;done)|skip
   cases vs with
   | cons v r=>cases h
   | nil =>
     obtain⟨_,q⟩:=cg (aR h);obtain⟨_,rfl⟩:=cg q;intro b j;cases j
 | cons p ps s =>
   intro A U vs x u ns h;cases p with
   | false =>
     cases A<;>first|(cases h;done)|skip
     cases vs with
     | nil=>cases h
     | cons v r =>
       simp only[tP] at h;split at h
       .rename_i k;obtain⟨_,q⟩:=cg (aR h);obtain⟨_,rfl⟩:=cg q;exact s k
       .cases h
   | true =>
     cases U<;>first|(cases h;done)|skip
     cases vs with
     | nil=>cases h
     | cons t r =>
     cases t<;>first|(cases h;done)|skip
     rename_i b l m;cases m with
     | cons _ _=>cases h
     | nil =>
     simp only[tP] at h;split at h
     case h_2=>cases h
     rename_i f j;cases e:(Nat.beq f.aV l&&!f.buf&&!f.lk&&!f.ro&&Nat.beq f.tid 0) with
     | false=>rw[e] at h;cases h
     | true =>
       rw[e] at h;simp at e;split at h
       case h_2=>cases h
       rename_i y z C n D k;cases i:dz n b with
       | true=>rw[i] at h;cases h
       | false =>
         rw[i] at h;obtain⟨_,q⟩:=cg (aR h);obtain⟨_,rfl⟩:=cg q;intro c o cx g;rcases ld.1 o with rfl|o
         .rw[j] at g;obtain rfl:=aR g;exact e.1.1.2
         .exact s k c o cx g
def XB:∀{U u ns c v},rH U u ns c=ab v->c∈ns:=by
 intro U;induction U with
 | pair t U g e =>
   intro u ns c v h;cases ns with
   | nil=>cases h
   | cons b r =>
     simp only[rH] at h;cases f:Nat.beq c b with
     | true=>obtain rfl:=ja f;exact pL ..
     | false=>rw[f] at h;exact vi _ (e h)
 | _=>intro u ns c v h;cases h
def R8{ps A U vs x u y ns σ}(h:tP σ ps A U vs=ab (x,u,ns)):b8 σ (Ac U y ns σ):=λb e c f=>by
 rw[uO];cases hv:rH U y ns b with
 | none=>exact c
 | some v =>
   have:=XA h b (XB hv) e c;rw[f] at this;cases this
def R9{s d f σ ba}(b:(C2 s d f σ).run=ab ba):b8 σ ba:=by
 unfold C2 at b;split at b
 .split at b
  case h_2=>cases b
  split at b
  case h_2=>cases b
  obtain⟨_,c⟩:=aJ b;obtain rfl:=aR c;apply b8.bD
 .split at b
  case h_2=>cases b
  split at b
  case h_2=>cases b
  obtain⟨_,c⟩:=aJ b;split at c
  case h_2=>cases c
  rename_i k h;obtain⟨g,e⟩:=aJ c;simp at g;split at e
  case h_2=>cases e
  obtain rfl:=aR e;exact(jY λj i=>by rw[h] at i;obtain rfl:=aR i;exact g.1.1.2).trans (b8.bD _ _ _)
 .cases b
def XC{b aV}:∀{g j σ r},(mkObj b aV g j σ).run=ab r->b8 σ r.2:=by
 intro g;induction g with
 | nil=>intro j σ r c;obtain rfl:=aR c;apply b8.refl
 | cons f q l =>
   intro j σ r c;cases f with
   | buf e m =>
     obtain⟨_,h⟩:=aJ c;obtain⟨aV,n,o⟩:=oc h;obtain⟨y,i,k⟩:=bind_some o;obtain rfl:=aR k;have:=l i;exact n.trans this
   | _ =>
     obtain⟨y,i,k⟩:=bind_some c;obtain rfl:=aR k;have:=l i;exact this
def Sa{b}:∀{c j v σ r},(rJ b c j v σ).run=ab r->b8 σ r.2:=by
 intro c;induction c with
 | nil =>
   intro j v σ r g;obtain rfl:=Jb g;apply b8.refl
 | cons f q k =>
   intro j v σ r g;rcases FY g with ⟨x,u,y,rfl,h,rfl⟩|⟨e,l,u,rfl,s,i⟩
   .have:=k h;exact this
   .obtain⟨m,n,o⟩:=oc i;obtain⟨y,h,p⟩:=bind_some o;obtain rfl:=aR p;have:=k h;exact n.trans this
def UN{cx inl}(i:∀f h σ v ba,(inl f h σ).run=ab (v,ba)->b8 σ ba){d f h σ ba}
  (b:(yK cx inl d f h σ).run=ab ba):b8 σ ba:=by
 unfold yK at b;split at b
 .split at b
  .split at b
   .obtain⟨y,l,g⟩:=cp b;obtain rfl:=aR g;apply b8.bD
   .exact absurd b cm
  .split at b
   .rename_i j;obtain⟨y,l,g⟩:=cp b;obtain rfl:=aR g;exact(rU j).trans (b8.bD _ _ _)
   .exact absurd b cm
 .have e:((inl f h σ).bind λr=>.ret (r.2.bD d r.1):Tree St).run=ab ba->b8 σ ba:=by
   intro b;obtain⟨r,k,g⟩:=bind_some b;obtain rfl:=aR g;exact(i _ _ _ _ _ k).trans (b8.bD _ _ _)
  split at b
  .exact R9 b
  split at b
  .rename_i c m;split at b
   .rename_i x u n j;obtain⟨y,l,g⟩:=cp b;obtain rfl:=aR g;exact(R8 j).trans (b8.bD _ _ _)
   .exact e b
  .exact e b
def Mq{nb e d c σ ba}(b:(nf nb e d c σ).run=ab ba):b8 σ ba:=by
 unfold nf at b;split at b
 case h_2=>cases b
 split at b
 case h_2=>cases b
 rename_i f;obtain⟨_,b⟩:=aJ b;obtain⟨_,b⟩:=cP b;obtain⟨g,h,i⟩:=oc b;obtain rfl:=aR i;exact((re f).trans h).trans (b8.bD _ (ab _) _)
def Sc{e A res spec d f σ ba}(c:(tQ e A res spec d f σ).run=ab ba):b8 σ ba:=by
 unfold tQ at c;split at c
 case h_2=>cases c
 split at c
 case h_2=>cases c
 rename_i h;split at c
 case h_2=>cases c
 rename_i b q u l i;obtain⟨v,_,c⟩:=cp c;obtain⟨r,m,n,j,s,o,_⟩:=uP i;have key:∀g,b8 _ (St.ch _ b g):=λg=>jY λt p=>by rw[r] at p;obtain rfl:=aR p;exact j
 cases res with
 | true =>
   cases d with
   | none=>cases c
   | some k=>obtain rfl:=aR c;exact((rU h).trans<|key _).trans (b8.bD _ (ab _) _)
 | false =>
   cases d with
   | none=>obtain⟨_,c⟩:=aJ c;obtain rfl:=aR c;exact((rU h).trans<|key _).trans (b8.bD _ ah _)
   | some k=>obtain⟨_,c⟩:=aJ c;obtain rfl:=aR c;exact((rU h).trans<|key _).trans (b8.bD _ _ _)
def Sd{cx nb bf inl}(c:∀f b σ v ba,(inl f b σ).run=ab (v,ba)->b8 σ ba){d f b σ ba}
  (e:(vT cx nb bf inl d f b σ).run=ab ba):b8 σ ba:=by
 unfold vT at e;split at e
 .exact Mq e
 .exact Sc e
 .exact UN c e
end Go.Ge
namespace Go.Ge
open RowKit
def bq(b:St)(T:Tree St):Prop:=∀y,T.run=ab y->b8 b y
def bq.fail{σ}:bq σ .fail:=λy h=>by cases h
def bq.ret{σ ba}(h:b8 σ ba):bq σ (.ret ba):=λy b=>by obtain rfl:=aR b;exact h
def bq.bif{σ c t}(h:bq σ t):bq σ (bif c then t else .fail):=λy b=>h y (aJ b).2
def bq.jL{σ c t}(h:bq σ t):bq σ (.jL c t):=λy b=>h y (cP b).2
def bq.look{σ T}{o:Option T}{k}(h:∀x,bq σ (k x)):bq σ (.look o k):=λy b=>by obtain⟨x,_,c⟩:=cp b;exact h x y c
def bq.node{σ c t e}(h:bq σ t)(k:bq σ e):bq σ (.node c t e):=λy b=>by
 have:=gR b;cases c with
 | true=>exact h y this
 | false=>exact k y this
def bq.bind{σ α}{t:Tree α}{f}(h:∀x,t.run=ab x->bq σ (f x)):bq σ (t.bind f):=λy b=>by obtain⟨x,c,e⟩:=bind_some b;exact h x c y e
def bq.bF{σ b val tid buf d}{v:Nat->cA}:bq σ (σ.bF b val tid buf λc σ=>.ret (σ.put d<|v c)):=λy e=>by
 obtain⟨c,f,g⟩:=oc e;obtain rfl:=aR g;exact f.trans (b8.put _ _ _)
def Qw{p:Prop}(h:p:=by
 repeat' (first
  | exact bq.fail|exact bq.ret (b8.bD _ _ _)|exact bq.ret (b8.put _ _ _)|exact bq.bF
  | refine bq.bif ?_|refine bq.jL ?_|refine bq.look λ_=>?_|refine bq.node ?_ ?_|refine bq.bind λ_ _=>?_|split)):p:=h
section
variable {cx:Ctx} {nb:Nat} {bf:List Nat} {inl:Nat->List cA->St->Tree (cA×St)} {d:Option Nat} {σ:St}
def Bi{ty v}:bq σ (kp cx nb bf d ty v σ):=by
 unfold kp;split
 .exact Qw
 .split
  .rename_i k e _;cases dz bf k with
   | true=>exact bq.bF
   | false=>exact bq.ret (b8.put _ _ _)
  .exact bq.ret (b8.bD _ _ _)
 .exact bq.ret (b8.bD _ _ _)
def OZ{c a b}:bq σ (pU d c a b σ):=by unfold pU;exact Qw
def O0{ty a}:bq σ (mF cx d ty a σ):=by unfold mF;exact Qw
def Mr{ty x lo hi}:bq σ (na cx d ty x lo hi σ):=by unfold na;exact Qw
def XD{b aV i}:∀{m k},bq σ (LN d b aV σ i m k):=by
 intro m;induction m with
 | zero=>exact bq.fail
 | succ m c=>exact bq.node (bq.ret<|b8.bD _ _ _) c
def wZ{ty x i}:bq σ (fc cx d ty x i σ):=by
 unfold fc;split
 case h_6=>split
           .exact bq.bif XD
           .exact bq.fail
 all_goals exact Qw
def Ms{ty x i}:bq σ (nc cx d ty x i σ):=by
 unfold nc;split
 .refine bq.bif ?_;split
  .exact bq.bif (bq.ret<|b8.bD _ _ _)
  .exact bq.fail
 .exact wZ
def Mt{ty x i}:bq σ (nd cx d ty x i σ):=by unfold nd;exact Qw
def EO{s x k}:bq σ (fD cx d s x k σ):=by unfold fD;exact Qw
def HL{s t x}:bq σ (iJ cx nb d s t x σ):=by unfold iJ;exact Qw
def D1{ty t x}:bq σ (zn cx d ty t x σ):=by
 unfold zn;split
 .split
  .exact bq.fail
  .exact bq.bind λr b=>bq.ret ((Jf b).trans<|b8.bD _ _ _)
 .exact bq.fail
def Mu{ty t}:bq σ (zo cx ty t σ):=by
 unfold zo;split
 .exact bq.bind λr b=>bq.ret (Jf b)
 .exact bq.fail
def Kf{name args}:bq σ (ti cx d name args σ):=by
 intro ba b;unfold ti at b;split at b
 .split at b
  .rename_i e;obtain⟨y,f,c⟩:=cp b;obtain rfl:=aR c;exact(rU e).trans (b8.bD _ _ _)
  .exact absurd b cm
 .exact absurd b cm
def Mv{ty u x}:bq σ (tg cx d ty u x σ):=by
 intro ba b;unfold tg at b;split at b
 .split at b
  .split at b
   .rename_i c;obtain rfl:=aR b;exact(re c).trans (b8.bD _ _ _)
   .exact absurd b cm
  .exact absurd b cm
 .exact absurd b cm
def O1(b:∀f e σ v ba,(inl f e σ).run=ab (v,ba)->b8 σ ba){ty c}:bq σ (wR cx nb bf inl d ty c σ):=by
 unfold wR;split
 .split
  .exact Qw
  .split
   .exact λy g=>Bh g
   .exact λy g=>Bh g
   .exact bq.fail
  .split
   .exact D1
   .exact D1
   .exact bq.fail
  .split
   .exact Mu
   .exact bq.fail
  .exact Qw
  .exact Qw
  .exact bq.fail
 .split
  .exact bq.bif λy g=>Sd b g
  .exact bq.fail
 .exact Kf
def Cc(e:∀f g σ v ba,(inl f g σ).run=ab (v,ba)->b8 σ ba){o}:bq σ (rK cx nb bf inl o σ):=by
 unfold rK;split
 case h_1=>exact Bi
 case h_2=>exact Bi
 case h_3=>exact OZ
 case h_4 =>
  split
  .unfold wJ;split
   .refine bq.bif λy b=>?_;obtain⟨i,j,k⟩:=oc b;exact j.trans (bq.bF y k)
   .exact bq.bF
  .split
   .refine bq.bind λr h=>?_;exact λy b=>(XC h).trans (bq.bF y b)
   .exact bq.bif bq.bF
  .exact bq.fail
 case h_5 =>
  unfold FD;split
  .exact bq.fail
  .exact bq.fail
  .split
   .refine bq.bind λr h=>?_;exact λy b=>(Sa h).trans (bq.bF y b)
   .exact bq.bF
  .exact bq.fail
 case h_6 =>
  split
  .split
   .rename_i c;exact bq.ret ((Ke c).trans<|b8.bD _ _ _)
   .exact bq.fail
  .split
   .rename_i c;exact bq.ret ((wY c).trans<|b8.bD _ _ _)
   .exact bq.fail
  .exact Qw
  .exact bq.fail
 case h_7 =>
  split
  .split
   .exact bq.bF
   .refine bq.bif ?_;split
    .rename_i c;split
     .exact λy b=>(wY c).trans (bq.bF _ b)
     .exact bq.ret ((wY c).trans<|b8.bD _ _ _)
    .exact bq.fail
  .unfold C3;exact Qw
  .exact bq.fail
 case h_8=>exact O0
 case h_9=>split
           .exact λy b=>Mp b
           .exact bq.fail
 case h_10=>exact Qw
 case h_11=>exact Qw
 case h_12=>exact Qw
 case h_13=>exact HL
 case h_14=>exact Qw
 case h_15=>exact Mr
 case h_16=>exact EO
 case h_17=>exact Qw
 case h_18=>split
            .cases dz bf 5000000 with
             | true=>exact Ms
             | false=>exact wZ
            .exact bq.fail
 case h_19=>split
            .exact Mt
            .exact bq.fail
 case h_20=>exact Qw
 case h_21=>exact Qw
 case h_22=>exact O1 e
 case h_23=>exact Mv
 case h_24=>exact bq.fail
end
end Go.Ge
namespace Go.Ge
open RowKit
def n0.shrink{mem cT}(i:∀b c,mem b=ab c->cT b=ab { c with lk:=true }){b aV j K}(k:n0 mem b aV j)(h:n0 cT b aV K)
  (l:∀c,K { c with lk:=true }->K c):n0 mem b aV K:=by
 obtain⟨c,f,m,_⟩:=k;obtain⟨n,g,p,o⟩:=h;rw[i b c f] at g;obtain rfl:=aR g;exact⟨c,f,m,λe=>l c (o e)⟩
def cM.shrink{γ bK mem cT w w'}(g:∀b G,mem b=ab G->cT b=ab { G with lk:=true }):∀{v m us vs},
  cM γ mem w v m us->cM bK cT w' v m vs->cM bK mem w' v m vs:=by
 intro v;induction v with
 | undef=>intro m us vs _ r;cases m<;>exact r
 | data t x=>intro m us vs _ r;cases m<;>exact r
 | pT=>intro m us vs _ r;cases m<;>exact r
 | uJ=>intro m us vs _ r;cases m<;>exact r
 | cell t x=>intro m us vs _ r;cases m<;>exact r
 | nl=>intro m us vs _ r;cases m<;>exact r
 | uK=>intro m us vs _ r;cases m<;>exact r
 | xT b aV =>
   intro m us vs c r;cases m with
   | many=>exact r
   | cells=>exact⟨r.1,c.2.shrink g r.2 λ_ k=>k⟩
   | val=>exact⟨r.1,c.2.shrink g r.2 λ_ k=>k⟩
 | ptr b aV p =>
   intro m us vs c r;cases m with
   | many=>exact r
   | cells=>exact⟨r.1,c.2.shrink g r.2 λ_ k=>k⟩
   | val=>exact⟨r.1,c.2.shrink g r.2 λ_ k=>k⟩
 | whole b aV =>
   intro m us vs c r;cases m with
   | many=>exact r
   | cells=>exact⟨r.1,c.2.shrink g r.2 λ_ k=>k⟩
   | val=>exact⟨r.1,c.2.shrink g r.2 λ_ k=>k⟩
 | part b aV lo n =>
   intro m us vs c r;cases m with
   | many=>exact r
   | cells=>exact⟨r.1,c.2.shrink g r.2 λ_ k=>k⟩
   | val=>exact⟨r.1,c.2.shrink g r.2 λ_ k=>k⟩
 | win b aV q e k lo n =>
   intro m us vs c r;cases m with
   | many=>exact r
   | cells=>exact⟨r.1,c.2.shrink g r.2 λ_ k=>k⟩
   | val=>exact⟨r.1,c.2.shrink g r.2 λ_ k=>k⟩
 | fn f H =>
   intro m us vs c r;cases m with
   | many=>exact r
   | cells=>obtain⟨_,_,_,s⟩:=c;obtain⟨h,j,l,F⟩:=r;exact⟨h,j,l,λi b aV z=>(s i b aV z).shrink g (F i b aV z) λ_ k=>k⟩
   | val=>obtain⟨_,_,_,s⟩:=c;obtain⟨h,j,l,F⟩:=r;exact⟨h,j,l,λi b aV z=>(s i b aV z).shrink g (F i b aV z) λ_ k=>k⟩
 | mix a b o y =>
   intro m us vs c r;cases m with
   | cells=>obtain⟨_,_,_,A,C⟩:=c;obtain⟨D,E,c,j,l⟩:=r;exact⟨D,E,c,o A j,y C l⟩
   | val=>obtain⟨_,_,_,A,C⟩:=c;obtain⟨D,E,c,j,l⟩:=r;exact⟨D,E,c,o A j,y C l⟩
   | many=>obtain⟨_,_,_,A,C⟩:=c;obtain⟨D,E,c,j,l⟩:=r;exact⟨D,E,c,o A j,y C l⟩
 | BN u I =>
   intro m us vs c r;cases m with
   | val=>obtain⟨_,_,s⟩:=c;obtain⟨h,j,l⟩:=r;exact⟨h,j,I s l⟩
   | cells=>exact r
   | many=>exact r
def bN.unlock{B γ bK mem cT w w'}(h:bN B γ mem w)(p:∀b e,mem b=ab e->cT b=ab { e with lk:=true })
  (m:bN B bK cT w') (q:Ext B γ (λi=>match mem i with|some b=>ab { b with lk:=true }|none=>ah) w bK cT w'):bN B bK mem w'/\Ext B γ mem w bK mem w':=by
 have r:∀b e,mem b=ab e->bK.loc b=γ.loc b:=by
  intro b e f;obtain⟨u,k1,k2,k3⟩:=q.boxes b { e with lk:=true } (by simp[f]);rw[p b e f] at k1;obtain rfl:=aR k1;exact(k3 rfl).1
 have n:∀b,mem b≠ah->cT b≠none:=by
  intro b f;cases t:mem b with
  | none=>exact absurd t f
  | some e=>rw[p b e t];simp
 refine⟨?_,⟨q.below,q.I,q.rR,q.cells,λb e f=>⟨e,f,cq _,λ_=>⟨r b e f,rfl,rfl⟩⟩⟩⟩;exact
  { du:=m.du
    base:=m.base
    boxes:=λb e f=>by
     have j:=h.boxes b e f;have o:=m.boxes b _ (p b e f);unfold fu at j o⊢;cases l:e.buf with
     | true=>rw[l] at o;exact o
     | false =>
       rw[l] at j o;obtain⟨_,_,_,_,_,_,_,_,_,v⟩:=j;obtain⟨g,cap,cur,tid,fr,k1,k2,k3,ag3,x⟩:=o;exact⟨g,cap,cur,tid,fr,k1,k2,k3,ag3,v.shrink p x⟩
    inj:=λb c g k y f z j o=>m.inj b c g k y (n b f) (n c z) j o
    fresh:=λb g k f j=>m.fresh b g k (n b f) j
    vG:=m.vG
    sep:=λb e g k s f j A=>by
     have:=m.sep b _ g k s (p b e f) j A;exact this }
def Ext.jz{B γ}{c:St}{w}:Ext B γ c.mem w γ c.jz.mem w where
 below:=wL.refl _ _
 I:=λ_ _ h=>h
 rR:=λ_ _ h=>.inl h
 cells:=λ_ _ _=>rfl
 boxes:=λb e f=>⟨{ e with lk:=true },by simp[St.jz,f],cq _,λ_=>⟨rfl,rfl,rfl⟩⟩
def bN.jz{B γ}{j:St}{w}(h:bN B γ j.mem w):bN B γ j.jz.mem w:=by
 have inv:∀{b l},j.jz.mem b=ab l->∃e,j.mem b=ab e/\l={ e with lk:=true }:=by
  intro b l f;simp only[St.jz] at f;split at f
  .rename_i e h0;exact⟨e,h0,(aR f).symm⟩
  .cases f
 have i:∀{b},j.jz.mem b≠ah->j.mem b≠none:=by
  intro b f o;apply f;simp[St.jz,o]
 exact
  { du:=h.du
    base:=h.base
    boxes:=λb l f=>by
     obtain⟨e,h0,rfl⟩:=inv f;have:=(h.boxes b e h0).keep (Ext.jz (B:=B)) rfl (λ_ _ _=>rfl);exact this
    inj:=λb c g k p f q m r=>h.inj b c g k p (i f) (i q) m r
    fresh:=λb g k f m=>h.fresh b g k (i f) m
    vG:=h.vG
    sep:=λb l g k n f m s=>by
     obtain⟨e,h0,rfl⟩:=inv f;exact h.sep b e g k n h0 m s }
def dK.jz{B N γ σ a w}(h:dK B N γ σ a w):dK B N γ σ.jz a w where
 br:=λt=>(h.br t).ext (Ext.jz (B:=B))
 size:=h.size
 defers:=h.defers
 ok:=h.ok.jz
def Se{e f:St}(h:b8 e.jz f):∀b c,e.mem b=ab c->f.mem b=ab { c with lk:=true }:=λb c g=>h b _ (by simp[St.jz,g]) rfl
end Go.Ge
