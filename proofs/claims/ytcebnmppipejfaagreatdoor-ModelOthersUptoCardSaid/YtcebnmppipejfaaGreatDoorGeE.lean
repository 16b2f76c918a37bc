import Derived.Test.YtcebnmppipejfaaGreatDoorGeD
import Derived.Laws.Build
set_option linter.unusedVariables false
set_option linter.unusedSimpArgs false
set_option linter.unusedSectionVars false
set_option linter.defProp false
open Option renaming some->ab,none->ah
open Go.IntKind (i64)
namespace Go.Ge
open RowKit
def xV(P:Program)(G:BT)(inl:Nat->List cB->St->Tree (cB×St)):Prop :=
 ∀(B:BA) (γ:Gh) (σ aY:St) (w:World) (f:Nat) (b:List cB) (i:Array Value) (v:cB),B.G=G->bM B γ σ.mem w->nr γ σ.mem w b i.toList->(inl f b σ).run=ab (v,aY) ->
  (∃h c,P.funcs[f]?=ab h/\(h.name == "runtime.NumGoroutine")=false/\h.body=ab c)/\aY.br=σ.br /\
  Calls P f i w λe w'=>∃g bJ,e=.returned g/\bM B bJ aY.mem w'/\Ext B γ σ.mem w bJ aY.mem w'/\cM bJ aY.mem w' v .val [g]
section
variable {P:Program} {B:BA} {N:Nat} {γ:Gh} {σ aY:St} {a:Act} {w w':World} {d:Option Nat} {cx:Ctx} {nb:Nat} {bf:List Nat} {inl:Nat->List cB->St->Tree (cB×St)}
def FY(B:BA)(N:Nat)(c:Gh)(e:St)(a:Act)(w:World)(d:Option Nat)(b:St)(K:Act->World->Prop):Prop :=
 ∀bJ v w',dJ B N bJ b (a.put d v) w'->Ext B c e.mem w bJ b.mem w'->K (a.put d v) w'
def RJ{f:Nat}{fn code}(c:P.funcs[f]?=ab fn)(e:(fn.name == "runtime.NumGoroutine")=false)(g:fn.body=ab code) args w :
  (callFunc f args).run P w=.ok (.enter f args) w:=by
 have b:¬fn.name = "runtime.NumGoroutine":=by simpa using e
 simp[callFunc,c,b,g]
def b8{o s K Q}(b:execOp a.eval o=(do pure<|.value (<-s)))(h:oM P B N γ σ a w o.dst s aY)(c:FY B N γ σ a w o.dst aY K):o.wp P a w K Q:=by
 obtain⟨v,w',bJ,e,f,g⟩:=h;unfold Oper.wp;rw[b];simp only[Sem.run_bind,e];exact c bJ _ w' f g
def Qe{ops:List Operand}(h:dJ B N γ σ a w):nr γ σ.mem w (ops.map<|dw σ) (ops.map a.eval):=by
 refine⟨bb,λi v x b c=>?_⟩;rw[Ep] at b c;cases e:ops[i]? with
 | none=>rw[e] at b;cases b
 | some o =>
   rw[e] at b c;obtain rfl:=aQ b;obtain rfl:=aQ c;exact h.dw o
def nr.append{mem vs us f g}(h:nr γ mem w vs f)(k:nr γ mem w us g):nr γ mem w (vs++us) (f++g):=by
 refine⟨by simp[h.1,k.1],λi v x c b=>?_⟩;rw[Rp] at c b;rw[h.1] at b;split at c
 .rename_i e;rw[aX e] at b;exact h.2 i v x c b
 .rename_i e;rw[aR e] at b;exact k.2 _ v x c b
def bM.drop{mem w'}(h:bM B γ mem w){b WV bx}(t:mem b=ab WV)(j:WV.aU<bx.aU)(m:wE B w w')
  (l:∀k,k<w.heap.size->(∀c,γ.loc b≠ab (k,c))->w'.heap[k]?=w.heap[k]?) (i:∀k o,k<w.heap.size->w'.cell? ⟨k,o,ah⟩=w.cell? ⟨k,o,ah⟩)
  (y:fj (bU γ b ah) (dt mem b bx) w' b bx):bM B (bU γ b ah) (dt mem b bx) w'/\Ext B γ mem w (bU γ b ah) (dt mem b bx) w':=by
 have hx:Ext B γ mem w (bU γ b ah) (dt mem b bx) w' :=
  { below:=m
    I:=λ_ _ x=>x
    rM:=λ_ _ x=>.inl x
    cells:=λblk o x=>i blk o (h.vz blk o x)
    boxes:=λc cx f=>by
     by_cases e:c=b
     .subst e;obtain rfl:WV=cx:=aQ (t.symm.trans f);exact⟨bx,bI _ _,ZF j,λe=>absurd e ai⟩
     .exact⟨cx,by rw[bg _ e];exact f,cp _,λ_=>⟨by simp[bU,e],rfl,rfl⟩⟩ }
 refine⟨?_,hx⟩;exact
  { dv:=h.FJ hx
    base:=iU h.base m.size
    boxes:=λc cx f=>by
     by_cases e:c=b
     .subst e;rw[bI] at f
      grind
     .rw[bg _ e] at f;refine(h.boxes c cx f).keep hx (by simp[bU,e]) λblk k u=>l blk (h.fresh c blk k (by rw[f];simp) u).2 λp q=>e ?_;exact h.inj c b blk k p (by rw[f];simp) (by rw[t];simp) u q
    inj:=λc d blk k p f v g n=>by
     by_cases e:c=b
     .simp only[bU,aX e] at g;cases g
     .by_cases r:d=b
      .simp only[bU,aX r] at n;cases n
      .simp only[bU,aR e] at g;simp only[bU,aR r] at n;rw[bg _ e] at f;rw[bg _ r] at v;exact h.inj c d blk k p f v g n
    fresh:=λc blk k f g=>by
     by_cases e:c=b
     .simp only[bU,aX e] at g;cases g
     .simp only[bU,aR e] at g;rw[bg _ e] at f;have:=h.fresh c blk k f g;exact⟨this.1,Eo this.2 m.size⟩
    vz:=λblk off s=>Eo (h.vz blk off s) m.size
    sep:=λc cx blk k off f g s=>by
     by_cases e:c=b
     .simp only[bU,aX e] at g;cases g
     .simp only[bU,aR e] at g;rw[bg _ e] at f;exact h.sep c cx blk k off f g s }
def Us{mem b c}(h:mem b=ab c):dt mem b c=mem:=by
 funext i;by_cases e:i=b
 .subst e;rw[bI,h]
 .rw[bg _ e]
def OG{f s R xs}(hs:fk P f s)(h:dJ B N γ σ a w)(hd:∀k,d=ab k->k<N)(hv:nr γ σ.mem w R xs.toList)
  (C:(CU s d R σ).run=ab aY) {K} (hK:FY B N γ σ a w d aY K) :
  (∃fn code,P.funcs[f]?=ab fn/\(fn.name == "runtime.NumGoroutine")=false/\fn.body=ab code)/\Calls P f xs w λe w'=>∃v,e=.returned v/\K (a.put d v) w':=by
 unfold CU at C;split at C
 .rename_i T b aU;split at C
  case h_2=>cases C
  rename_i Y S;split at C
  case h_2=>cases C
  rename_i b' v' u un A;obtain⟨n,F⟩:=aI C;obtain rfl:=aQ F;simp only[gy,zP] at n;obtain⟨⟨⟨⟨⟨⟨⟨⟨c1,c2⟩,c3⟩,c4⟩,c5⟩,c6⟩,c7⟩,c8⟩,c9⟩:=n;have c1:=iT c1;have c5:=iT c5;have c7:=iT c7;have c8:=iT c8;have c6:0<T:=by simpa using c6
  subst c7;subst c8;obtain⟨val,G,Z,g1,g2⟩:=hv.cons;have r:G=[]:=by have:=g2.1;simpa using this
  subst r;obtain⟨m,i,U,g3⟩:=bA S c1 g1.2;simp only[eC] at g3;obtain rfl:xs=#[.pointer<|some ⟨m,0,ah⟩]:=by apply Fq.1;rw[Z,g3]
  have t:=h.ok.boxes b' Y S;unfold fj at t;rw[c2] at t;obtain⟨aa1,aiN,z,tid,fr,a1,a2,a3,a4,a5⟩:=t;rw[U] at a1;obtain⟨rfl,rfl⟩:=cd (aQ a1);have H:tid=T:=by
   grind
  subst H;rw[A] at a5;obtain⟨cs1,cs2,e1,e2,e3⟩:=a5;obtain⟨cs3,cs4,e4,e5,e6⟩:=e3;obtain⟨⟨p,rfl,hp1⟩,hp2⟩:=e2;obtain⟨q,hq⟩:∃q,cs3=[q]:=by
   cases u<;>first|(cases c9;done)|skip
   obtain⟨⟨q,hq,_⟩,_⟩:=e5
   grind
  subst hq;obtain rfl:cs4=[]:=e6;have I:z=#[p,q]:=by apply Fq.1;rw[e1,e4];rfl
  subst I;obtain⟨aoq,alU,j1,j2⟩:=bA S c1 hp2;rw[U] at j1;obtain⟨rfl,rfl⟩:=cd (aQ j1);refine⟨hs.1,(hs.2 w m p q fr a2 (a3 0 bb)<|j2.imp BH BH).mono λe w' D=>?_⟩;obtain⟨rfl,D⟩:=D;refine⟨_,rfl,?_⟩;have V:∀{bJ cT w'},cM bJ cT w' (.BF .nl) .val [.tuple #[]]:=λ{_ _ _}=>⟨#[],rfl,rfl⟩;rcases D with rfl|rfl
  .refine hK γ _ _ (h.wN hd V) ?_;cases d<;>apply Ext.refl
  .have akg:({ Y with val:=Y.val }:Box)=Y:=by cases Y;rfl
   obtain⟨m1,m2⟩:=h.ok.write S c4 U a2 (cur':=#[.pointer _,q]) bb (by rw[akg])
    (λw' cT hx hg=>by
     rw[c2];refine⟨m,i,_,tid,fr,U,hg,λo ho=>a3 o (by simpa using ho),a4,?_⟩;rw[A];refine⟨[.pointer _],[q],rfl,?_,[q],[],rfl,e5.ext hx,rfl⟩;have hp3:nU cT b' v' λ_=>∃m i,γ.loc b'=ab (m,i):=by
      obtain⟨WV,k1,k2,k3⟩:=hp2;obtain⟨u6,q1,q2,J⟩:=hx.boxes b' WV k1;exact⟨u6,q1,iU k2 q2,λ_=>⟨m,i,U⟩⟩
     obtain⟨u6,q1,q2,J⟩:=hp3;exact⟨⟨_,rfl,rfl⟩,u6,q1,q2,λ_=>⟨m,i,U,.inr rfl⟩⟩)
   rw[ Us S] at m1 m2;refine hK γ _ _ (h.bD m2 m1 hd V) ?_;cases d<;>exact m2
 .rename_i T E b aU;split at C
  case h_2=>cases C
  rename_i Y S;split at C
  case h_2=>cases C
  rename_i b' v' hh hv' un A;obtain⟨n,F⟩:=aI C;simp only[gy,zP] at n;obtain⟨⟨⟨⟨c1,c2⟩,c5⟩,c6⟩,c7⟩:=n;have c5:=iT c5;have c6:0<T:=by simpa using c6
  split at F
  case h_2=>cases F
  rename_i hx Q;obtain⟨n,hr3⟩:=aI F;simp only[gy] at n;obtain⟨⟨⟨⟨d1,d2⟩,d3⟩,d4⟩,d5⟩:=n;have d4:=iT d4;have d5:0<E:=by simpa using d5
  split at hr3
  case h_2=>cases hr3
  rename_i l hhv;change List Int at l;obtain rfl:=aQ hr3;obtain⟨val,G,Z,g1,g2⟩:=hv.cons;have r:G=[]:=by have:=g2.1;simpa using this
  subst r;obtain⟨m,i,U,g3⟩:=bA S (iT c1) g1.2;obtain rfl:xs=#[.pointer _]:=by apply Fq.1;rw[Z,g3]
  have t:=h.ok.boxes b Y S;unfold fj at t;rw[c2] at t;obtain⟨aa1,aiN,z,tid,fr,a1,a2,a3,a4,a5⟩:=t;rw[U] at a1;obtain⟨rfl,rfl⟩:=cd (aQ a1);have H:tid=T:=by
   grind
  subst H;rw[A] at a5;obtain⟨cs1,cs2,e1,e2,e3⟩:=a5;obtain⟨cs3,cs4,e4,e5,e6⟩:=e3;obtain⟨⟨p,rfl,hp1⟩,hp2⟩:=e2;obtain⟨⟨q,rfl,hq1⟩,hq2⟩:=e5;obtain rfl:cs4=[]:=e6;have I:z=#[p,q]:=by apply Fq.1;rw[e1,e4];rfl
  subst I;obtain⟨e',n',k1,k2,k3⟩:=bA Q (iT d1) hq2;rw[Box.er d2 hhv] at k2;obtain⟨rfl,rfl⟩:=cd (aQ k2);have L:=h.ok.boxes hh hx Q;unfold fj at L;rw[d2] at L;obtain⟨e3,l3,q1,q2,J⟩:=L;rw[hhv] at q1;cases q1;have hlen:(bu l).length=l.length:=by simp[bu]
  let hx':Box:={ hx with val:=.data (.slice<|.int .u8) ([]),aU:=hx.aU+1 }
  have key:∃og,(∀k,og=ab k->∃c,γ.loc hh=ab (k,c))/\l.length<=maxLen /\
    ((og=ah/\q=.slice ah 0 0/\bu l=[])\/∃(g i:Nat) (z:Array Value) (fr':Nat×Nat),og=ab g/\q=.slice (ab ⟨g,0,ah⟩) (bu l).length i/\w.heap[g]?=ab (.cells z E fr')/\(bu l).length<=i/\i<=maxLen/\z.size=i/\∀(j:Nat) x,(bu l)[j]?=ab x->z[j]?=ab (Value.int .u8 x.toNat)):=by
   rcases k3 with ⟨k3,k4⟩|⟨g,M,k3,k4⟩
   .rcases J with ⟨_,J⟩|⟨_,_,_,_,_,J,_⟩
    .subst J;exact⟨ah,Fm,qK _,.inl ⟨rfl,BH k4,rfl⟩⟩
    .grind
   .rcases J with ⟨J,_⟩|⟨g',anl,O,alV,frg,J,q4,q5,q6,q7,q8,q9,q10⟩
    .grind
    .rw[k3] at J;obtain⟨rfl,rfl⟩:=cd (aQ J);have htg:alV=E:=by
      grind
     subst htg;have W:(Ty.int IntKind.u8).size=1:=rfl;have q7':l.length<=M:=q7;refine⟨ab g,λk X=>⟨M,by rw[k3,aQ X]⟩,iU q7' q8,.inr ⟨g,M,O,frg,rfl,?_,q4,ai,q8,by rw[q9,W,Ln],λj x hj=>?_⟩⟩
     .rw[hlen];exact BH k4
     .simp only[bu,Ep,Em] at hj;obtain⟨y,hy,rfl⟩:=hj;obtain⟨r1,r2,r3⟩:=q10 j y hy;rw[W,Ln] at r1;have alW:(IntKind.u8).min=0:=aK;have agN:(IntKind.u8).max=255:=aK;have anm:O.toList[j]?=ab (.int .u8 y):=by
       have:((O.toList.drop j).take 1)[0]?=ab (.int .u8 y):=by rw[r1];rfl
       grind
      simp_all;omega
  obtain⟨og,hog,hlm,X⟩:=key;refine⟨hs.1,(hs.2 w m p q fr _ og a2 X).mono λe w' D=>?_⟩;obtain⟨rfl,D⟩:=D;refine⟨_,rfl,?_⟩;have alX:wE B w w':=⟨D.os,D.tape,D.output,D.size,λk X=>by
   rcases vM k w.heap.size with hlt|hge
   .refine D.block k hlt λe=>X ?_;obtain⟨c,hc⟩:=hog k e;exact(h.ok.fresh hh k c (by rw[Q];simp) hc).1
   .exact absurd (.inl<|iU h.ok.base hge) X⟩
  have alY:fj (bU γ hh ah) (dt σ.mem hh hx') w' hh hx':=by
   unfold fj;rw[show hx'.buf=true from d2];exact⟨.int .u8,[],rfl,q2,.inl ⟨by simp[bU],rfl⟩⟩
  obtain⟨m1,m2⟩:=h.ok.drop Q (Zx _) alX (λk X hn=>D.block k X λe=>by obtain⟨c,hc⟩:=hog k e;exact hn c hc) D.cell alY;refine hK _ _ w' (h.bD m2 m1 hd ⟨[.string ⟨(bu l).toArray⟩],⟨rfl,by rw[hlen];exact hlm⟩,rfl⟩) ?_
  .cases d<;>exact m2
 .cases C
def RL(p:qX P B.G cx)(U:xV P B.G inl){f m E}(h:dJ B N γ σ a w)(V:∀k,d=ab k->k<N)(W:nr γ σ.mem w m E.toList)
  (j:(yC cx inl d f m σ).run=ab aY) {K} (R:FY B N γ σ a w d aY K) :
  (∃F q,P.funcs[f]?=ab F/\(F.name == "runtime.NumGoroutine")=false/\F.body=ab q)/\Calls P f E w λe w'=>∃v,e=.returned v/\K (a.put d v) w':=by
 unfold yC at j;split at j
 .rename_i c X;have S:=p.con f c X;refine⟨S.body,?_⟩;split at j
  .rename_i H;split at j
   .rename_i x Y;obtain⟨y,Z,l⟩:=cm j;obtain rfl:=aQ l;refine(S.calls _ w E x y (λb o t=>t) h.ok.Rz (OD (I':=λb o=>b<w.heap.size) h.ok (λb o i=>h.ok.vz b o i) (λb o _ t=>t) W Y) Z).mono λe w' J=>?_;obtain⟨v,I',L,C,M,T,h5,h6⟩:=J;refine⟨v,L,?_⟩;obtain⟨m1,D⟩:=h.ok.far (I':=γ.I) C (λ_ _ i=>i) (λb o i=>Eo (h.ok.vz b o i) C.size) (λb o i hn=>absurd i hn);refine R γ _ w' (h.bD D m1 V<|h6.flat H) ?_;cases d<;>exact D
   .exact absurd j cl
  .split at j
   .rename_i x b5 Y;obtain⟨y,Z,l⟩:=cm j;obtain rfl:=aQ l;obtain⟨γ1,s1,s2,s3⟩:=tJ h W Y;refine(S.calls γ1.I w E x y (λb o i=>s1.ok.vz b o i) s1.ok.Rz s3 Z).mono λe w' J=>?_;obtain⟨v,I',L,C,M,T,h5,h6⟩:=J;refine⟨v,L,?_⟩;obtain⟨m1,D⟩:=s1.ok.far (I':=I') C M T h5;refine R ⟨I',γ1.loc⟩ _ w' (s1.bD D m1 V<|h6.rep λ_ _ i=>i) ?_;cases d<;>exact s2.trans D
   .exact absurd j cl
 .rename_i X;have ak7:((inl f m σ).bind λr=>.ret (r.2.bD d r.1):Tree St).run=ab aY->(∃F q,P.funcs[f]?=ab F/\(F.name == "runtime.NumGoroutine")=false/\F.body=ab q)/\Calls P f E w λe w'=>∃v,e=.returned v/\K (a.put d v) w':=by
   intro j;obtain⟨r,hr1,l⟩:=bind_some j;obtain rfl:=aQ l;obtain⟨v0,rz⟩:=r;obtain⟨t,hsl,z⟩:=U B γ σ rz w f m E v0 rfl h.ok W hr1;refine⟨t,z.mono λe w' J=>?_⟩;obtain⟨v,bJ,L,C,M,T⟩:=J;refine⟨v,L,?_⟩;have hs0:rz={ br:=σ.br,mem:=rz.mem }:=by cases rz;subst hsl;rfl
   rw[hs0] at R;refine R bJ _ w' (h.bD M C V T) ?_;cases d<;>exact M
  split at j
  .rename_i s hcs;exact OG (p.TL f s hcs) h V W j R
  split at j
  .rename_i c hcr;split at j
   .rename_i x u ns Y;obtain⟨y,Z,l⟩:=cm j;obtain rfl:=aQ l;have S:=p.adK f c hcr;obtain⟨bs,g1,g2,g3⟩:=OE h.ok W Y;have O:∀A∈bs,∀o,¬γ.I A o:=λA t o i=>by
     obtain⟨b,bx,k,j1,j2,j3,j4⟩:=g2.LZ A t;have:=(h.ok.sep b bx A k o j2 j4 i).1
     grind
    refine⟨S.body,(S.calls γ.I w E bs x u y (λb o i=>h.ok.vz b o i) h.ok.Rz (λb Q g t=>by
     obtain⟨n,bx,k,j1,j2,j3,j4⟩:=g2.LZ b t;exact(h.ok.dv b Q g).1 (h.ok.fresh n b k (by rw[j2];simp) j4).1) g1 g3 (g2.nodup h.ok) O Z).mono λe w' J=>?_⟩
    obtain⟨v,I',L,C,M,T,h5,h6,h7⟩:=J;refine⟨v,L,?_⟩;obtain⟨m1,D⟩:=h.ok.refs g2 C M T h5 h7;refine R ⟨I',γ.loc⟩ _ w' (by exact h.bD D m1 V<|h6.rep λ_ _ i=>i) ?_;cases d<;>exact D
   .grind
  .grind
def bM.Xi{mem w'}(h:bM B γ mem w){b u6 e U L X I' v}
  (K:∀k,X k->∃g c,mem b=ab g/\g.ro=false/\γ.loc b=ab (k,c)) (p:l7 w γ.I X w' I') (u:xU w' I' e U L v) (S:∀f c,L=ab (f,c)->X f\/w.heap.size<=f)
  (V:∀g,mem b=ab g->g.aU<u6.aU\/(g.aU=u6.aU/\L=γ.loc b/\u6.buf=g.buf/\u6.row=g.row)) (W:u6.val=.data (.slice e) U) (Y:u6.buf=true) (Z:u6.tid=0) (he:0<e.size) :
  let bJ:Gh:=⟨I',λi=>if i=b then L else γ.loc i⟩
  bM B bJ (dt mem b u6) w'/\Ext B γ mem w bJ (dt mem b u6) w':=by
 intro bJ;have m:∀k,k<w.heap.size->¬X k->w'.heap[k]?=w.heap[k]?:=λk s M=>p.below.block k λq=>by
  rcases q with q|q
  .grind
  .grind
 have z:∀k,X k->∀o,¬γ.I k o:=λk s o y=>by
  obtain⟨g,c,n,r,O⟩:=K k s;have:=(h.sep b g k c o n O y).1
  grind
 have E:∀k,¬B.has k->k<w.heap.size:=λk s=>Zw λq=>s (.inl<|iU h.base q);have A:∀k,X k->B.has k/\k<w.heap.size:=λk s=>by
  obtain⟨g,c,n,r,O⟩:=K k s;exact h.fresh b k c (by rw[n];simp) O
 have hx:Ext B γ mem w bJ (dt mem b u6) w' :=
  { below:=⟨p.below.os,p.below.tape,p.below.output,p.below.size,λk s=>m k (E k s) λM=>s (A k M).1⟩
    I:=p.held
    rM:=λb o x=>by
     by_cases y:γ.I b o
     .grind
     .exact .inr (.inl<|iU h.base<|p.rM b o x y)
    cells:=λb o y=>dM (m b (h.vz b o y) λM=>z b M o y)
    boxes:=λc cx j=>by
     by_cases l:c=b
     .subst l;refine⟨u6,bI _ _,?_,λF=>?_⟩
      .grind
      .grind
     .exact⟨cx,by rw[bg _ l];exact j,cp _,λ_=>⟨by simp[bJ,l],rfl,rfl⟩⟩ }
 have aoy:∀f c,L=ab (f,c)->f<w'.heap.size/\∀o,¬I' f o:=λf c G=>by
  rcases u with ⟨q,_⟩|⟨H,cap,cur,tid,fr,q1,q2,q3,q4,q5,q6,q7,q8,q9⟩
  .grind
  .grind
 have C:∀{c d:Nat},c≠b->dt mem b u6 c≠ah->mem c≠none:=λj Q=>by rwa [bg _ j] at Q
 have R:∀{d f k c},d≠b->mem d≠ah->L=ab _->γ.loc d=ab _->False:=λ{d f k c} hd Q G r=>by
  rcases S f k G with t|t
  .obtain⟨g,c0,j1,j2,T⟩:=K f t;exact hd (h.inj d b f c c0 Q (by rw[j1];simp) r T)
  .have:=(h.fresh d f c Q r).2;omega
 refine⟨?_,hx⟩;exact
  { dv:=h.FJ hx
    base:=iU h.base p.below.size
    boxes:=λc cx j=>by
     by_cases l:c=b
     .subst l;rw[bI] at j;unfold fj;rcases u with ⟨q1,q2,q3⟩|⟨H,cap,cur,tid,fr,q1,q2,q3,q4,q5,q6,q7,q8,q9⟩
      .grind
      .grind
     .rw[bg _ l] at j;refine(h.boxes c cx j).keep hx (by simp[bJ,l]) λf k G=>m f (h.fresh c f k (by rw[j];simp) G).2 λt=>?_;obtain⟨g,c0,j1,j2,T⟩:=K f t;exact l (h.inj c b f k c0 (by rw[j];simp) (by rw[j1];simp) G T)
    inj:=λc d f k k' j hd n r=>by
     by_cases l:c=b
     .by_cases F:d=b
      .grind
      .exfalso;simp only[bJ] at n;simp only[bJ,aR F] at r;simp_all
     .by_cases F:d=b
      .exfalso;simp only[bJ] at n;simp only[bJ] at r;simp_all
      .simp only[bJ,aR l] at n;simp only[bJ,aR F] at r;exact h.inj c d f k k' (C (d:=0) l j) (C (d:=0) F hd) n r
    fresh:=λc f k j n=>by
     by_cases l:c=b
     .grind
     .simp only[bJ,aR l] at n;have:=h.fresh c f k (C (d:=0) l j) n;exact⟨this.1,Eo this.2 p.below.size⟩
    vz:=p.vz
    sep:=λc cx f k D j n y=>by
     by_cases l:c=b
     .grind
     .simp only[bJ,aR l] at n;rw[bg _ l] at j;by_cases J:γ.I f D
      .exact h.sep c cx f k D j n J
      .have O:=p.rM f D y J;have r:=(h.fresh c f k (by rw[j];simp) n).2;omega }
def xU.rep{I loc mem w e l L v b aU bx}(h:xU w I e l L v)
  (f:loc b=L) (p:mem b=ab bx) (g:bx.aU=aU) (c:bx.buf=true) (i:bx.val=.data (.slice e) l):cM ⟨I,loc⟩ mem w (.whole b aU) .val [v]:=by
 rcases h with ⟨k,m,n⟩|⟨j,o,q,tid,r,k,m,n,s,t,u,x,y,z⟩
 .exact⟨⟨v,rfl,by rw[n];rfl⟩,gO p g ⟨e,l.length,c,Box.er c i,.inl ⟨by rw[<-k];exact f,by rw[n]⟩⟩⟩
 .exact⟨⟨v,rfl,by rw[m];rfl⟩,gO p g ⟨e,l.length,c,Box.er c i,.inr ⟨j,o,by rw[<-k];exact f,by rw[m]⟩⟩⟩
def aea{mem}(h:bM B γ mem w){b aU i}{e:Ty}{l:List e.den}{v}(u:mem b=ab i)(m:i.aU=aU)(f:i.buf=true)(D:i.ro=false)(g:i.val=.data (.slice e) l)
  (E:cM γ mem w (.whole b aU) .val [v]):xU w γ.I e l (γ.loc b) v/\0<e.size:=by
 obtain⟨O,n,Q,A,c⟩:=bA u m E.2;rw[Box.er f g] at A;obtain⟨rfl,rfl⟩:=cd (aQ A);have j:=h.boxes b i u;unfold fj at j;rw[f] at j;obtain⟨R,S,C,F,k⟩:=j;rw[g] at C;cases C;refine⟨?_,F⟩;rcases k with ⟨k,x⟩|⟨p,q,y,tid,G,k,x,H,T,J,K,L,z⟩
 .rcases c with ⟨c,r⟩|⟨s,t,c,r⟩
  .exact .inl ⟨c,x,BH r⟩
  .grind
 .rcases c with ⟨c,r⟩|⟨s,t,c,r⟩
  .grind
  .rw[k] at c;obtain⟨rfl,rfl⟩:=cd (aQ c);refine .inr ⟨p,q,y,tid,G,k,BH r,x,H,J,K,L,λo M=>?_,z⟩;have:=(h.sep b i p q o u k M).1
   grind
def uE{e v b aU i l}(h:zY e σ v=ab (b,aU,i,l)):σ.mem b=ab i/\i.aU=aU/\i.buf=true/\i.lk=false/\i.ro=false/\i.tid=0 /\
  ∃k:List e.den,i.val=.data (.slice e) k/\((v=.whole b aU/\l=k)\/∃n,v=.part b aU 0 n/\l=sub k 0 n):=by
 unfold zY at h;split at h
 .rename_i r g;split at h
  .rename_i c p;cases f:(Nat.beq c.aU g&&c.buf&&!c.lk&&!c.ro&&Nat.beq c.tid 0) with
   | false=>rw[f] at h;cases h
   | true =>
     rw[f] at h;split at h
     .rename_i u k j;split at h
      .rename_i s m;obtain⟨q,o⟩:=my m;subst q;subst o;simp_all
      .cases h
     .cases h
  .cases h
 .rename_i r g t n;split at h
  .rename_i c p;cases f:(Nat.beq c.aU g&&c.buf&&!c.lk&&!c.ro&&Nat.beq c.tid 0&&decide (t=0)) with
   | false=>rw[f] at h;cases h
   | true =>
     rw[f] at h;simp only[gy,zP,uv] at f;split at h
     .rename_i u k j;split at h
      .rename_i s m;obtain⟨q,o⟩:=my m;subst q;subst o;cases h;have x:=f.2;subst x;exact⟨p,iT f.1.1.1.1.1,f.1.1.1.1.2,f.1.1.1.2,f.1.1.2,iT f.1.2,_,j,.inr ⟨n,rfl,rfl⟩⟩
      .cases h
     .cases h
  .cases h
 .cases h
def Xj{mem}(h:bM B γ mem w){b aU m}{e:Ty}{l:List e.den}{n v}(z:mem b=ab m)(r:m.aU=aU)(c:m.buf=true)(J:m.ro=false)(f:m.val=.data (.slice e) l)
  (K:cM γ mem w (.part b aU 0 n) .val [v]):xU w γ.I e (sub l 0 n) (γ.loc b) v/\0<e.size:=by
 obtain⟨V,k,D,W,X,Y,E,g,u,Z,k8,L,k9⟩:=bA z r K.2;rw[Box.er c f] at D;obtain⟨rfl,rfl⟩:=cd (aQ D);have p:=h.boxes b m z;unfold fj at p;rw[c] at p;obtain⟨e3,l3,F,M,j⟩:=p;rw[f] at F;cases F;refine⟨?_,M⟩;obtain u:=BH u;have hlen:(sub l 0 n).length=n.toNat:=by
  simp only[sub,kC,pP];omega
 rcases L.2 rfl c with ⟨s,rfl,rfl⟩|⟨q,s,rfl⟩
 .rcases j with ⟨j,y⟩|⟨q,A,t,tid,G,j,_⟩
  .subst y;have:n.toNat=0:=ai;exact .inl ⟨s,by simp[sub],by rw[u,this]⟩
  .grind
 .rcases j with ⟨j,y⟩|⟨H,A,t,tid,G,j,y,O,q6,q7,Q,R,C⟩
  .grind
  .rw[s] at j;obtain⟨rfl,rfl⟩:=cd (aQ j);refine .inr ⟨q,g,t,tid,G,s,by rw[hlen];exact u,y,O,ai,Q,R,λo S=>?_,λi x T=>C i x ?_⟩
   .have:=(h.sep b m q g o z s S).1
    grind
   .have U:((l.drop (0:Int).toNat).take n.toNat)[i]?=ab x:=T
    grind
def Qf{e v b aU q l val}(k:bM B γ σ.mem w)(h:zY e σ v=ab (b,aU,q,l))(m:cM γ σ.mem w v .val [val]):xU w γ.I e l (γ.loc b) val/\0<e.size:=by
 obtain⟨o,c,f,r,j,p,s,g,i⟩:=uE h;rcases i with ⟨rfl,rfl⟩|⟨n,rfl,rfl⟩
 .exact aea k o c f j g m
 .exact Xj k o c f j g m
def xW{f s}(h:yB cx bf d f=ab s):find cx.TL f=ab s:=by
 unfold yB at h
 grind
def JZ{f e i s}(E:fk P f (.clone e))(h:dJ B N γ σ a w)(H:∀k,d=ab k->k<N)(J:nr γ σ.mem w i s.toList)
  (g:(mZ nb e d i σ).run=ab aY) {K} (M:FY B N γ σ a w d aY K) :
  (∃t m,P.funcs[f]?=ab t/\(t.name == "runtime.NumGoroutine")=false/\t.body=ab m)/\Calls P f s w λe w'=>∃v,e=.returned v/\K (a.put d v) w':=by
 unfold mZ at g;split at g
 case h_2=>cases g
 rename_i k x;split at g
 case h_2=>cases g
 rename_i l b5 O;obtain⟨Q,g⟩:=aI g;obtain⟨n,g⟩:=cO g;obtain⟨aU,p,u⟩:=ev g;obtain rfl:=aQ u;obtain⟨R,r,y,S,T⟩:=J.cons;have j:r=[]:=by have:=T.1;simpa using this
 subst j;obtain⟨z,A,U,V,W,X⟩:=nY h S O;refine⟨E.1,(E.2 z.I w s l (λb o Y=>A.ok.vz b o Y) ⟨V,[],by rw[y,X],W,rfl⟩ n).mono λq w' Z=>?_⟩;obtain⟨v,I',L,rfl,h1,F,h3⟩:=Z;refine⟨v,rfl,?_⟩;obtain⟨m1,G⟩:=A.ok.Xi (u6:={ val:=.data _ l,tid:=0,buf:=true,ro:=false,lk:=false,aU }) (λ_ hf=>hf.elim) h1 F (λC c hl=>.inr (h3 C c hl))
  (λD h0=>.inl (p D h0)) rfl rfl rfl (by simpa using Q)
 exact M _ _ w' (A.step G m1 (H k rfl)<|F.rep bb (bI _ _) rfl rfl rfl) (U.trans G)
def OH{f e A res spec m R}(hs:fk P f (.own e A res spec))(h:dJ B N γ σ a w)(hd:∀k,d=ab k->k<N)(hv:nr γ σ.mem w m R.toList)
  (i:(tF e A res spec d m σ).run=ab aY) {K} (hK:FY B N γ σ a w d aY K) :
  (∃S z,P.funcs[f]?=ab S/\(S.name == "runtime.NumGoroutine")=false/\S.body=ab z)/\Calls P f R w λe w'=>∃v,e=.returned v/\K (a.put d v) w':=by
 unfold tF at i;split at i
 case h_2=>cases i
 rename_i v0 vs;split at i
 case h_2=>cases i
 rename_i x b5 hg;split at i
 case h_2=>cases i
 rename_i b T C l D;obtain⟨E,r,i⟩:=cm i;obtain⟨U,F,g,hlk,V,p,l0,G,s⟩:=uE D;obtain⟨W,H,X,g1,g2⟩:=hv.cons;obtain⟨t,y,Y,u⟩:=tJ h g2 hg;obtain⟨J,he⟩:=Qf y.ok D (g1.ext Y);refine⟨hs.1,(hs.2 t.I w R W H l E _ x (λb o hi=>y.ok.vz b o hi) X J u r).mono λq w' hw=>?_⟩;obtain⟨I',h1,h2⟩:=hw;have hX:∀k,(∃c,t.loc b=ab _)->∃j c,b5.mem b=ab j/\j.ro=false/\t.loc b=ab (k,c):=λk ⟨c,hc⟩=>⟨C,c,U,V,hc⟩;cases res with
 | true =>
   cases d with
   | none=>cases i
   | some k =>
     obtain rfl:=aQ i;obtain⟨v',L',rfl,Q,h4⟩:=h2;refine⟨v',rfl,?_⟩;obtain⟨m1,L⟩:=y.ok.Xi (b:=b) (u6:={ C with val:=.data (.slice e) E,aU:=T+1 }) hX h1 Q h4 (λj M=>by
      rw[U] at M;obtain rfl:=aQ M;exact .inl (by simp[F])) rfl g p he
     exact hK _ _ w' (y.step L m1 (hd k rfl)<|Q.rep bb (bI _ _) rfl g rfl) (Y.trans L)
 | false =>
   have Z:KC v0=true/\aY=(b5.cg b { C with val:=.data (.slice e) E }).bD d (.BF .nl):=by
    cases d with
    | none=>obtain⟨q1,q2⟩:=aI i;exact⟨q1,(aQ q2).symm⟩
    | some k=>obtain⟨q1,q2⟩:=aI i;exact⟨q1,(aQ q2).symm⟩
   obtain⟨hwh,rfl⟩:=Z;obtain rfl:l=l0:=by
    rcases s with ⟨_,q⟩|⟨n,rfl,_⟩
    .exact q
    .cases hwh
   obtain⟨rfl,O,Q⟩:=h2;refine⟨_,rfl,?_⟩;obtain⟨m1,L⟩:=y.ok.Xi (u6:={ C with val:=.data (.slice e) E }) hX h1 Q (λblk c hl=>.inl ⟨c,hl⟩) (λj M=>by
    rw[U] at M;obtain rfl:=aQ M;exact .inr ⟨rfl,rfl,rfl,by rw[Box.er g G,Box.er (bx:={ C with val:=.data (.slice e) E }) g rfl,O]⟩) rfl g p he
   refine hK _ _ w' (y.bD L m1 hd ⟨#[],rfl,rfl⟩) ?_;cases d<;>exact Y.trans L
def OI(b:qX P B.G cx)(g:xV P B.G inl){f c q}(h:dJ B N γ σ a w)(l:∀k,d=ab k->k<N)(m:nr γ σ.mem w c q.toList)
  (i:(vN cx nb bf inl d f c σ).run=ab aY) {K} (n:FY B N γ σ a w d aY K) :
  (∃o j,P.funcs[f]?=ab o/\(o.name == "runtime.NumGoroutine")=false/\o.body=ab j)/\Calls P f q w λe w'=>∃v,e=.returned v/\K (a.put d v) w':=by
 unfold vN at i;split at i
 .rename_i e p;exact JZ (b.TL f _<|xW p) h l m i n
 .rename_i e A r s p;exact OH (b.TL f _<|xW p) h l m i n
 .exact RL b g h l m i n
def L1{o}{f:Nat}{g K Q}(i:(execOp a.eval o).run P w=(callFunc f g).run P w)
  (h:(∃c b,P.funcs[f]?=ab c/\(c.name == "runtime.NumGoroutine")=false/\c.body=ab b)/\Calls P f g w λe w'=>∃v,e=.returned v/\K (a.put o.dst v) w'):o.wp P a w K Q:=by
 obtain⟨⟨c,b,j,k,l⟩,m⟩:=h;unfold Oper.wp;rw[i,RJ j k l];refine m.mono λe w' n=>?_
 grind
def Ut(K:fS P cx){t X:TypeId}{v x n}(L:bM B γ σ.mem w)(A:cM γ σ.mem w v .val [x])(p:ZG (find cx.T t) v=true)(f:lenOf σ v=ab n) :
  (Builtin.len_ #[t] X #[x]).run P w=.ok (goInt n) w/\IntKind.i64.min<=n/\n<=IntKind.i64.max:=by
 have Y:maxLen<=IntKind.i64.max:=aK;have Z:IntKind.i64.min<=0:=aK;have h:∀{base m c},(∃e,find cx.T t=ab (.slice e))->x=.slice base m c->n=m->m<=maxLen->(Builtin.len_ #[t] X #[x]).run P w=.ok (goInt n) w/\IntKind.i64.min<=n/\n<=IntKind.i64.max:=by
  intro base m c M hx hn L;obtain⟨e,M⟩:=M;obtain⟨O,Q,_⟩:=(K.T _ _ M).slice;subst hx;subst hn;refine⟨?_,ai,ai⟩;simp[Builtin.len_,run_underlying Q]
 have i:∀{o:Option Ty},(match o with|some (.slice _)=>true|_=>false)=true->∃e,o=ab (.slice e):=by
  grind
 cases v with
 | data u y =>
   cases u with
   | str =>
     obtain⟨rfl,C⟩:=yD A;obtain rfl:=aQ f;have e1:(⟨List.toArray y⟩:ByteArray).size=List.length y:=by
      show(List.toArray y).size=_
      grind
     refine⟨?_,?_,?_⟩
     .simp only[Builtin.len_];simp[run_underlying<|(K.T _ _<|jI p).str,e1,len]
     .simp only[len];omega
     .simp only[len];omega
   | slice e =>
     obtain rfl:=aQ f;obtain⟨cs,D,C⟩:=eE.1 A;rcases D with ⟨⟨_,D⟩,R⟩|⟨E,off,q,D,R,h4,_⟩
     .rw[D] at C;exact h ⟨e,jI p⟩ C (by rw[R];rfl) (qK _)
     .rw[D] at C;exact h ⟨e,jI p⟩ C rfl (iU R h4)
   | arr m e =>
     obtain⟨O,Q,_⟩:=(K.T _ _<|jI p).arr;simp only[lenOf] at f;cases j:Nat.ble m 4294967296 with
     | false=>rw[j] at f;cases f
     | true =>
       rw[j] at f;obtain rfl:=aQ f;have:=JH j;have h9:4294967296<=IntKind.i64.max:=aK;refine⟨by simp[Builtin.len_,run_underlying Q],ai,ai⟩
   | _=>cases f
 | pQ =>
   obtain rfl:=aQ f;obtain rfl:x=_:=by simpa [cM] using A
   exact h (i p) rfl rfl (qK _)
 | whole b aU =>
   simp only[lenOf] at f;split at f
   .rename_i F j;cases g:(Nat.beq F.aU aU&&F.buf) with
    | false=>rw[g] at f;cases f
    | true =>
      rw[g] at f;simp only[gy] at g;split at f
      .rename_i u l r;obtain rfl:=aQ f;obtain⟨e',k,S,U,G⟩:=bA j (iT g.1) A.2;rw[Box.er S r] at U;obtain⟨rfl,rfl⟩:=cd (aQ U);rcases G with ⟨G,H⟩|⟨E,q,G,H⟩
       .have I:=L.boxes b F j;rw[fj,S] at I;obtain⟨e3,l3,V,q2,z⟩:=I;rw[r] at V;cases V;rcases z with ⟨_,z⟩|⟨E,q,W,tid,fr,z,_⟩
        .exact h (i p) (BH H) (by rw[z];rfl) (qK _)
        .grind
       .obtain⟨W,tid,fr,V,q2,z,q4,_⟩:=((L.boxes b F j).row G).1 _ l S r;exact h (i p) (BH H) rfl (iU z q4)
      .cases f
   .cases f
 | part b aU lo n' =>
   simp only[lenOf] at f;cases s:live σ b aU with
   | false=>rw[s] at f;cases f
   | true =>
     rw[s] at f;obtain rfl:=aQ f;obtain⟨F,j,J⟩:=ld s;obtain⟨e',k,U,G,H,g5,base,q,g6,g7,g8,gF,g9⟩:=bA j J A.2;exact h (i p) (BH g6) (adn H).symm (iU g7 g8)
 | _=>cases f
def fx.take{w I e l cs}(h:fx w I e l cs) k:fx w I e (l.take k) (cs.take<|k*e.size):=by
 intro i x b;rw[jP] at b;split at b
 .rename_i c;have f:_*e.size<=k*e.size:=hS _ c;rw[JL] at f;rw[ZB,IL,yx ai];exact h i x b
 .cases b
def fx.drop{w I e l cs}(h:fx w I e l cs) k:fx w I e (l.drop k) (cs.drop<|k*e.size):=by
 intro i x b;rw[sY] at b;rw[yy,<-iV];exact h _ x b
def I3{α}{l m:List α}{b:Int}(c:0<=b)(h:b+m.length<=l.length):(over l b m).length=l.length:=by
 simp only[over,jB,kC,pP];omega
def fx.over{w I e l m cs news}{lo:Int}(h:fx w I e l cs)(n:fx w I e m news)(f:news.length=m.length*e.size)(s:0<=lo)
  (t:lo+m.length<=l.length) (u:l.length*e.size<=cs.length):fx w I e (over l lo m) (bh cs (lo.toNat*e.size) news):=by
 have o:(lo.toNat+m.length)*e.size<=l.length*e.size:=hS _ ai;rw[iV] at o;have k:=(h.take lo.toNat).append (rest:=[]) n (by rw[kC,kC,yx ai,yx ai]) f;rw[zQ] at k;have p:bh cs (lo.toNat*e.size) news=cs.take (lo.toNat*e.size)++news++cs.drop ((lo.toNat+m.length)*e.size):=by
  simp only[bh,f,iV]
 rw[p];intro i x g;by_cases b:(lo.toNat+m.length)*e.size+(l.length-(lo.toNat+m.length))*e.size=l.length*e.size
 .have q:fx w I e (Go.Ge.over l lo m) (cs.take (lo.toNat*e.size)++news++(cs.drop<|(lo.toNat+m.length)*e.size)):=by
   intro i x g;by_cases j:i<lo.toNat+m.length
   .have c:(l.take lo.toNat++m)[i]?=ab x:=by
     simp only[Go.Ge.over] at g
     grind
    rw[oN<|by rw[jB,kC,f,yx ai,<-iV];exact(hS _ j)];exact k i x c
   .have c:(l.drop<|lo.toNat+m.length)[i-(lo.toNat+m.length)]?=ab x:=by
     simp only[Go.Ge.over] at g
     grind
    have:=h.drop _ _ x c;have r:i*e.size=(cs.take (lo.toNat*e.size)++news).length+(i-(lo.toNat+m.length))*e.size:=by
     rw[jB,kC,f,yx ai,<-iV,<-iV];congr 1;omega
    rw[r,<-yy]
    grind
  exact q i x g
 .exact absurd (by rw[<-iV];congr 1;omega) b
def wR(h:dJ B N γ σ a w){e m b aU q chk lo base news}
  (hr:(la e m b aU q chk lo σ).run=ab aY) (hE:fx w γ.I e m news) (hn:news.length=m.length*e.size) (X:∀u∈news,u.oneCell'=true) (h0:0<=lo)
  (Y:∀bx (l:List e.den),σ.mem b=ab bx->bx.aU=aU->bx.buf=true->bx.val=.data (.slice e) l->q=[]->lo+m.length<=l.length)
  (Z:∀bx k (l:List e.den),σ.mem b=ab bx->bx.aU=aU->bx.buf=false->(nav q bx.val).run=ab (.data (.arr k e) l)->chk k e=true->lo+m.length<=k)
  (K:m=[]\/∃g c,γ.loc b=ab (g,c)/\base=ab ⟨g,eC q+lo.toNat*e.size,ah⟩) :
  ∃w',(match base with|some ad=>storeCells ad news|none=>pure ()).run P w=.ok () w'/\dJ B N γ aY a w'/\Ext B γ σ.mem w γ aY.mem w':=by
 unfold la at hr;split at hr
 case h_2=>cases hr
 rename_i bx hb;obtain⟨hcd,o⟩:=aI hr;simp only[gy,zP] at hcd;obtain⟨⟨p,hlk⟩,hro⟩:=hcd;have p:=iT p;have s:=h.ok.boxes b bx hb;have G:m=[]->news=[]:=λU=>by subst U;simpa using hn
 have H:m=[]->(match base with|some ad=>storeCells ad news|none=>pure ()).run P w=.ok () w:=λU=>by
  rw[G U];cases base<;>rfl
 have r:∀g c f tid y,γ.loc b=ab (g,c)->w.heap[g]?=ab (.cells f tid y)->nV f y->eC q+lo.toNat*e.size+news.length<=f.size ->
   (match base with|some ad=>storeCells ad news|none=>pure ()).run P w=.ok () (w.setRow g (bh f.toList (eC q+lo.toNat*e.size) news).toArray):=by
  intro g c f tid y hl V hth L;rcases K with U|⟨aa1,c',hl',rfl⟩
  .rw[H U,G U];simp only[bh,zQ,nQ,Fv,BI];rw[setRow_self w g f tid y V]
  .rw[hl] at hl';have:=dx (P:=P) g _ tid y news 0 f w V hth ai X
   grind
 split at o
 .rename_i j;split at o
  case h_2=>cases o
  rename_i u l D;split at o
  case h_2=>cases o
  rename_i E M;obtain rfl:=aQ o;obtain⟨hq,O⟩:=my M;subst hq;obtain rfl:E=m:=O;have L:=Y bx l hb p j D rfl;have hlen:=I3 h0 L;unfold fj at s;rw[j] at s;obtain⟨e2,l2,j1,j2,j3⟩:=s;rw[D] at j1;cases j1;have Q:({ bx with val:=.data (.slice e) (over l lo E) }:Box).row=bx.row:=by
   rw[Box.er j D];exact(Box.er (bx:=⟨.data (.slice e) _,bx.tid,bx.buf,bx.ro,bx.lk,bx.aU⟩) j rfl).trans (by rw[hlen])
  rcases j3 with ⟨J,R⟩|⟨g,t,f,tid,y,J,R,k3,z,k4,k5,k6,k7⟩
  .subst R;have hm0:E=[]:=by
    grind
   subst hm0;have e1:σ.cg b { bx with val:=.data (.slice e) (over ([]:List e.den) lo []) }=σ:=by
    have:({ bx with val:=.data (.slice e) (over ([]) lo []) }:Box)=bx:=by
     cases bx;subst D;simp[over]
    simp only[St.cg]
    congr 1
    funext i;by_cases hi:i=b
    .grind
    .simp[ko hi]
   rw[e1];exact⟨w,H rfl,h,Ext.refl _ _ _ _⟩
  .have n:eC ([])+lo.toNat*e.size+news.length<=f.size:=by
    have:(lo.toNat+E.length)*e.size<=t*e.size:=hS _ ai;rw[iV] at this;simp only[eC];omega
   have hst:=r g t f tid y J R k3.th n;have v:(bh f.toList (lo.toNat*e.size) news).toArray.size=f.size:=by have:=bT (by simp only[eC] at n;omega);simpa using this
   obtain⟨m1,m2⟩:=h.ok.write hb hro J R (cur':=(bh f.toList _ news).toArray) v Q
    (λw' cT W V=>by
     simp only[j];refine⟨e,_,rfl,j2,.inr ⟨g,t,_,tid,y,J,V,k3.same v,z,by rw[hlen];exact k4,k5,by rw[v];exact k6,?_⟩⟩;intro i x hx';have:=fx.over k7 hE hn h0 L (by show _<=f.size;rw[k6];exact hS _ k4) i x hx';simpa using bY.mono W.I W.cells this)
   simp only[eC,BJ] at hst;exact⟨_,hst,h.go m2 m1,m2⟩
 .rename_i j;obtain⟨old,F,S⟩:=bind_some o;split at S
  case h_2=>cases S
  rename_i k u l;obtain⟨hck,T⟩:=aI S;split at T
  case h_2=>cases T
  rename_i E M;obtain⟨c,hs,hr5⟩:=bind_some T;obtain rfl:=aQ hr5;obtain⟨hq,O⟩:=my M;subst hq;obtain rfl:E=m:=O;unfold fj at s;rw[j] at s;obtain⟨g,t,f,tid,y,J,R,k3,z,k4⟩:=s;obtain⟨p1,p2⟩:=xS k4 F;obtain⟨r1,r2,r3⟩:=p2;have hll:lo+E.length<=(List.length l):=by rw[r1];exact(Z bx k l hb p j F hck)
  have alZ:(lo.toNat+E.length)*e.size<=k*e.size:=hS _ ai;rw[iV] at alZ;have n:eC q+lo.toNat*e.size+news.length<=f.size:=by have p1':eC q+k*e.size<=f.size:=p1;omega
  have A:((f.toList.drop _).take<|k*e.size).length=k*e.size:=r2;have C:lo.toNat*e.size+news.length<=((f.toList.drop<|eC q).take<|k*e.size).length:=ai;have al0:bY w γ.I (.arr k e) (over l lo E) (bh ((f.toList.drop<|eC q).take<|k*e.size) (lo.toNat*e.size) news):=by
   refine⟨(I3 h0 hll).trans r1,by rw[bT C,A],?_⟩;exact fx.over r3 hE hn h0 hll (by rw[A];exact DI (by rw[r1]))
  have Q:=IY (by rw[j];exact hs) λhp _=>by
   subst hp;rw[Box.rN j<|aQ F];exact Box.rN j rfl
  have v:(bh f.toList (eC q+lo.toNat*e.size) news).toArray.size=f.size:=by have:=bT n;simpa using this
  obtain⟨m1,m2⟩:=h.ok.write hb hro J R (cur':=(bh f.toList _ news).toArray) v Q
   (λw' cT W V=>by
    simp only[j];refine⟨g,t,_,tid,y,J,V,k3.same v,z,?_⟩;have:=z7 (k4.ext W) F hs (bY.mono W.I W.cells al0) (by rw[bT C,A];rfl);rw[(tI f.toList _ _ (k*e.size) news ai p1)] at this;simpa using this)
  exact⟨_,(r g t f tid y J R k3 n),h.go m2 m1,m2⟩
def FZ{e L t V r}(h:dJ B N γ σ a w)(hv:cM γ σ.mem w t .val [V])(M:(Hl e L t σ).run=ab r) :
  ∃g o,V=.slice g r.1.toNat o/\0<=r.1/\∀i,fx w γ.I e (L r.1) i->i.length=(L r.1).length*e.size->(∀u∈i,u.oneCell'=true)->(L r.1).length<=r.1.toNat ->
   ∃w',(match g with|some ad=>storeCells ad i|none=>pure ()).run P w=.ok () w'/\dJ B N γ r.2 a w'/\Ext B γ σ.mem w γ r.2.mem w':=by
 unfold Hl at M;split at M
 .rename_i b G lo n;obtain⟨b5,f,H⟩:=bind_some M;obtain rfl:=aQ H;have p:∃z,σ.mem b=ab z/\z.aU=G:=by
   unfold la at f;split at f
   .rename_i z A;obtain⟨W,_⟩:=aI f;simp_all
   .cases f
  obtain⟨z,A,v⟩:=p;obtain⟨e',k,Q,R,S,g5,g,o,g6,g7,g8,gF,T⟩:=bA A v hv.2;refine⟨g,o,by simpa using g6,S,λi X Y x Z=>?_⟩;refine wR h f X Y x R (λJ l C _ s m _=>?_) (λJ k' l C _ s F _=>?_) ?_
  .obtain rfl:=aQ (A.symm.trans C);rw[Box.er s m] at Q
   grind
  .obtain rfl:=aQ (A.symm.trans C);have m:=aQ F;rw[Box.rN s m] at Q
   grind
  .rcases T with T|⟨y,c,T,g10⟩
   .grind
   .by_cases hm:L n=[]
    .grind
    .right;have he:e'=e:=by
      unfold la at f;rw[A] at f;obtain⟨_,j⟩:=aI f;split at j
      .rename_i s;split at j
       case h_2=>cases j
       rename_i u l m;split at j
       case h_2=>cases j
       rename_i m' D;obtain⟨hq,_⟩:=my D;rw[Box.er s m] at Q
       grind
      .rename_i s;obtain⟨old,F,E⟩:=bind_some j;split at E
       case h_2=>cases E
       rename_i k' u l;obtain⟨_,K⟩:=aI E;split at K
       case h_2=>cases K
       rename_i m' D;obtain⟨hq,_⟩:=my D;have m:=aQ F;rw[Box.rN s m] at Q
       grind
     subst he;exact⟨y,c,T,by rw[g10];simp[eC]⟩
 .rename_i b G;split at M
  case h_2=>cases M
  rename_i n O;obtain⟨b5,f,H⟩:=bind_some M;obtain rfl:=aQ H;have p:∃z,σ.mem b=ab z/\z.aU=G:=by
   unfold la at f;split at f
   .rename_i z A;obtain⟨W,_⟩:=aI f;simp_all
   .cases f
  obtain⟨z,A,v⟩:=p;obtain⟨e',k,g1,Q,R⟩:=bA A v hv.2;have hbx:=h.ok.boxes b z A;have hl:∃l,z.val=.data (.slice e) l/\n=l.length:=by
   unfold la at f;rw[A] at f;obtain⟨_,j⟩:=aI f;split at j
   .split at j
    case h_2=>cases j
    rename_i u l hq0 m;split at j
    case h_2=>cases j
    rename_i m' D;obtain⟨hq,_⟩:=my D;subst hq;refine⟨l,m,?_⟩;simp only[lenOf,A,v,g1,adE,m] at O;exact(aQ O).symm
   .grind
  obtain⟨l,m,rfl⟩:=hl;rw[Box.er g1 m] at Q;obtain⟨rfl,rfl⟩:=cd (aQ Q);have fin:∀{g o},V=.slice g l.length o->(l.length=0\/∃y c,γ.loc b=ab (y,c)/\g=ab ⟨y,0,ah⟩) ->
    ∃g o,V=.slice g (l.length:Int).toNat o/\0<=l.length/\∀i,fx w γ.I e (L l.length) i->i.length=(L l.length).length*e.size->(∀u∈i,u.oneCell'=true)->(L l.length).length<=(l.length:Int).toNat ->
     ∃w',(match g with|some ad=>storeCells ad i|none=>pure ()).run P w=.ok () w'/\dJ B N γ b5 a w'/\Ext B γ σ.mem w γ b5.mem w':=by
   intro g o htv hb0;refine⟨g,o,by simpa using htv,ai,λi X Y x Z=>?_⟩;refine wR h f X Y x ai (λJ l' C _ s aoF _=>?_) (λJ k' l' C _ s F _=>?_) ?_
   .grind
   .grind
   .rcases hb0 with hb0|⟨y,c,q1,q2⟩
    .simp_all
    .right;exact⟨y,c,q1,by rw[q2];simp[eC]⟩
  rcases R with ⟨R,S⟩|⟨y,o,R,S⟩
  .obtain S:V=_:=by simpa using S
   rw[fj] at hbx
   grind
  .grind
 .rename_i b G q u k lo n;obtain⟨b5,f,H⟩:=bind_some M;obtain rfl:=aQ H;have p:∃z,σ.mem b=ab z/\z.aU=G:=by
   unfold la at f;split at f
   .rename_i z A;obtain⟨W,_⟩:=aI f;simp_all
   .cases f
  obtain⟨z,A,v⟩:=p;obtain⟨hq,y,c,g1,R,S,g5,g,o,g6,g7,T⟩:=bA A v hv.2;refine⟨g,o,by simpa using g6,S,λi X Y x Z=>?_⟩;refine wR h f X Y x R (λJ l C _ s m hq0=>absurd hq0 hq) (λJ k' l C _ s F U=>?_) ?_
  .simp_all;omega
  .rcases T with T|g10
   .grind
   .by_cases hm:L n=[]
    .grind
    .right;have he:u=e:=by
      unfold la at f;rw[A] at f;obtain⟨_,j⟩:=aI f;split at j
      .split at j
       .grind
       .cases j
      .obtain⟨old,F,E⟩:=bind_some j;split at E
       case h_2=>cases E
       obtain⟨U,K⟩:=aI E;split at K
       case h_2=>cases K
       rename_i m' D;obtain⟨hq',_⟩:=my D;simp at U;exact(Ty.eq_of_beq U.2).trans hq'.symm
     grind
 .cases M
def L2{I e m v}(h:BV w I e m v) n (q:n<=m.length) :
  ∃b,(Builtin.firstCells e.size n v).run P w=.ok b.toArray w/\b.length=n*e.size/\(∀u∈b,u.oneCell'=true)/\fx w I e (m.take n) b/\(Builtin.lenOf v).run P w=.ok m.length w:=by
 rcases h with ⟨rfl,g,c,k,r,s⟩|⟨t,y,c,k,r,s,z⟩
 .obtain rfl:n=0:=by simpa using q
  subst k;refine⟨[],?_,bb,λu A=>absurd A bb,λi x f=>absurd f bb,rfl⟩;cases g with
  | none=>rfl
  | some C=>exact run_firstCells_some w e.size 0 C 0 c [] bb (λj v o=>by cases o)
 .obtain⟨b,p,D,E,F⟩:=Ex (l:=m.take n) λi x f=>by
   rw[jP] at f;split at f
   .exact z i x f
   .cases f
  rw[kC,yx q] at p;refine⟨b,?_,p,E,F,by rw[k];rfl⟩;rw[k];exact run_firstCells_some w e.size n _ m.length c b p (λj u o=>by rw[addr_add];exact D j u o)
def L3{I s} n (h:n<=s.length) :
  ∃e,(Builtin.firstCells 1 n<|.string ⟨s.toArray⟩).run P w=.ok e.toArray w/\e.length=n/\(∀u∈e,u.oneCell'=true)/\fx w I (.int .u8) ((aC s).take n:List Int) e/\(Builtin.lenOf<|.string ⟨s.toArray⟩).run P w=.ok (aC s).length w:=by
 refine⟨(s.take n).map λb=>Value.int .u8 b.toNat,?_,by simp[h],λu l=>?_,λi x m=>?_,?_⟩
 .simp only[Builtin.firstCells];simp_all
 .obtain⟨_,_,rfl⟩:=T3.1 l;rfl
 .have c:((aC s).take n)[i]?=ab x:=m;rw[jP] at c;split at c
  .rename_i o;simp only[aC,Ep] at c;cases g:s[i]? with
   | none=>rw[g] at c;cases c
   | some b =>
     rw[g] at c;obtain rfl:_=x:=aQ c;refine⟨?_,RH b⟩;apply Ld;intro j;rw[jP];split
     .rename_i f;obtain rfl:j=0:=by simp[Ty.size] at f;exact f
      simp[Ty.size,g,o]
     .rename_i f;obtain⟨k,rfl⟩:∃k,j=k+1:=⟨j-1,by simp[Ty.size] at f;omega⟩;simp
  .grind
 .simp[Builtin.lenOf,aC,ByteArray.size]
def zm s:(aC s).length=s.length:=ux ..
def aec{s n}(h:n<=(aC s).length):n<=s.length:=by rw[zm] at h;exact h
def Xk(i:bM B γ σ.mem w){e m x v}(f:cM γ σ.mem w x .val [v])(h:yA e σ x=ab m) n (g:n<=m.length) :
  ∃b,(Builtin.firstCells e.size n v).run P w=.ok b.toArray w/\b.length=n*e.size/\(∀u∈b,u.oneCell'=true)/\fx w γ.I e (m.take n) b/\(Builtin.lenOf v).run P w=.ok m.length w:=by
 unfold yA at h;split at h
 .rename_i t;obtain⟨q,j⟩:=my h;subst q;subst j;obtain⟨k,_⟩:=yD f;rw[k];have c:n<=List.length t:=aec g;obtain⟨b,l,o,p,r,s⟩:=L3 n c;exact⟨b,l,by rw[o];simp[Ty.size],p,r,s⟩
 .exact L2 (s9 i f h) n g
def L4(C:fS P cx){u tx ty t x}(h:dJ B N γ σ a w)(D:∀k,d=ab k->k<N)(c:(zd cx d u (dw σ t) (dw σ x) σ).run=ab aY) :
  oM P B N γ σ a w d (Builtin.copy_ #[u,tx] ty #[a.eval t,a.eval x]) aY:=by
 unfold zd at c;split at c
 case h_2=>cases c
 rename_i e E;split at c
 case h_1=>cases c
 rename_i m f;obtain⟨r,l,n⟩:=bind_some c;obtain rfl:=aQ n;obtain⟨F,G,H,W,X⟩:=(C.T _ _ E).slice;obtain⟨g,o,I,Y,J⟩:=FZ (P:=P) h (h.dw t) l;have hlen:(iW m r.1).length=Nat.min m.length r.1.toNat:=by
  simp only[iW,kC];apply Nat.min_comm
 obtain⟨i,K,L,M,y,O⟩:=Xk (P:=P) h.ok (h.dw x) f _ (Nat.min_le_left _ _);have b:(m.take<|Nat.min m.length r.1.toNat)=iW m r.1:=by
  simp only[iW]
  grind
 rw[b] at y;obtain⟨w',j,Q,R⟩:=J i y (by rw[L,hlen]) M (by rw[hlen];apply Nat.min_le_right);have z:(iW m r.1).length<=maxLen:=by
  rcases Zt (iW m r.1).length with S|S
  .omega
  .rw[hlen];refine iU (Nat.min_le_left _ _) ?_;have hv:=h.dw x;unfold yA at f;split at f
   .rename_i s U;obtain⟨q,V⟩:=my f;subst q;subst V;rw[U] at hv;obtain⟨_,A⟩:=yD hv;exact iU (DI<|zm s) A
   .rcases s9 h.ok hv f with ⟨rfl,_⟩|⟨_,_,o,_,A,Z,_⟩
    .grind
    .grind
 refine⟨goInt (iW m r.1).length,w',γ,?_,?_,?_⟩
 .have p:=H.sizeOf w;simp only[Builtin.copy_,I];simp only[aif,aid,ade,Sem.run_bind,run_underlying G,Result.andThen_ok,O,p,K,hlen];cases g with
  | none=>injection j with _ j;subst j;rfl
  | some ad=>simp only[Sem.run_bind,j,Result.andThen_ok,Sem.run_pure]
 .have h9:maxLen<=IntKind.i64.max:=aK;have h8:IntKind.i64.min<=0:=aK;have:=Q.wN D (v:=.data (.int .i64) (len _)) (val:=goInt (iW m r.1).length) (mkInt ⟨by simp only[len];omega,by simp only[len];omega⟩)
  grind
 .cases d<;>exact R
def J0(q:fS P cx){n ty t}(h:dJ B N γ σ a w)(g:(zf cx n (dw σ t) σ).run=ab aY) :
  oM P B N γ σ a w ah (Builtin.clear_ #[n] ty #[a.eval t]) aY:=by
 unfold zf at g;split at g
 case h_2=>cases g
 rename_i e s;obtain⟨r,k,l⟩:=bind_some g;obtain rfl:=aQ l;obtain⟨v,y,A,L,C⟩:=(q.T _ _ s).slice;obtain⟨c,D,E,M,F⟩:=FZ (P:=P) h (h.dw t) k;have hlen:(kj r.1 e.zero).length=r.1.toNat:=by simp[kj]
 obtain⟨z,O,o⟩:=A.zero w;have f:=oK w γ.I (.arr r.1.toNat e);have j:(Builtin.zeroCells z.cells r.1.toNat).toList=gA (.arr r.1.toNat e):=by
  have m:z.cells.size=e.size:=by rw[<-eA e,<-o];simp
  rw[<-(wQ o C r.1.toNat)];simp only[Builtin.zeroCells,madeCells,m]
 obtain⟨w',b,G,H⟩:=F _ (λi x J=>f.2.2 i x J) (by rw[eA,hlen];rfl) (λu K=>f.one u K) (DI hlen);refine⟨.tuple #[],w',γ,?_,G,H⟩;simp only[Builtin.clear_,E];simp only[aif,aid,Sem.run_bind,run_underlying y];cases c with
 | none=>injection b with _ b;subst b;rfl
 | some Q =>
   by_cases p:r.1.toNat=0
   .have:gA (.arr r.1.toNat e)=[]:=List.eq_nil_of_length_eq_zero (by rw[eA];simp[Ty.size,p]);rw[this] at b;injection b with _ b
    rw[p];simp_all
   .simp_all
def F0{least p q r u v}(h:cM γ σ.mem w p .val [u])(i:cM γ σ.mem w q .val [v])(f:(Ru least p q).run=ab r) :
  ∃z,((if least then Builtin.min2 u v else Builtin.max2 u v)).run P w=.ok z w/\cM γ σ.mem w r .val [z]:=by
 unfold Ru at f;split at f
 .rename_i k n l m;obtain⟨j,g⟩:=aI f;obtain rfl:=zb j;obtain rfl:=aQ g;obtain⟨rfl,c⟩:=vb h;obtain⟨rfl,e⟩:=vb i;have cmp:∀n m,k.min<=n/\n<=k.max->k.min<=m/\m<=k.max->cM γ σ.mem w (.data (.int k)<|aiE n m) .val [.int k<|if m<n then m else n]/\cM γ σ.mem w (.data (.int k)<|imax n m) .val [.int k<|if m > n then m else n]:=by
   intro n m c e;constructor
   .unfold aiE;by_cases b:m<n
    .simp only[b];exact mkInt e
    .simp only[b,decide_false,Fu];exact mkInt c
   .unfold imax;by_cases b:n<m
    .simp only[b];exact mkInt e
    .simp only[b];exact mkInt c
  cases least with
  | true=>exact⟨_,rfl,(cmp n m c e).1⟩
  | false=>exact⟨_,rfl,(cmp n m c e).2⟩
 .cases f
end
end Go.Ge
namespace Go.Ge
open RowKit
section
variable {P:Program} {B:BA} {N:Nat} {γ:Gh} {σ aY:St} {a:Act} {w w':World} {d:Option Nat} {cx:Ctx} {nb:Nat} {bf:List Nat} {inl:Nat->List cB->St->Tree (cB×St)}
def RM{f:Operand->cB}{l x}(h:l.map f=[x]):∃o,l=[o]/\f o=x:=by
 simp_all
def KL{f:Operand->cB}{l x y}(h:l.map f=[x,y]):∃o p,l=[o,p]/\f o=x/\f p=y:=by
 cases l with
 | nil=>cases h
 | cons o r =>
   obtain⟨p,b,c⟩:=RM (by simp at h⊢;exact h.2)
   grind
def fU{b:Type}{a:Array b}{l}(h:a.toList=l):a=l.toArray:=by rw[<-h]
def aa7{α}(k:Value->Array Value->Sem α) x b:(match(#[x]++b)[0]? with|some recv=>k recv ((#[x]++b).extract 1 (#[x]++b).size)|x=>stuck "call: a method without a receiver")=k x b.toList.toArray:=by
 have c:(#[x]++b)[0]?=ab x:=by rw[<-adg,Zq];rfl
 simp_all
def Xl(O:fS P cx)(J:qX P B.G cx)(Z:xV P B.G inl){o:Oper}{c}(F:o.op=.call c)(h:dJ B N γ σ a w)(L:∀k,o.dst=ab k->k<N)
  (l:(wL cx nb bf inl o.dst o.type c σ).run=ab aY) {K} {Q} (H:FY B N γ σ a w o.dst aY K):o.wp P a w K Q:=by
 unfold wL at l;split at l
 .rename_i b g;split at l
  ·
   rename_i x t A M;obtain⟨p,m,rfl⟩:=RM A;cases R:ZG _ _ with
   | false =>
     rw[R] at l;simp at l;split at l
     .rename_i e b aU q u k lo n he A;obtain⟨hl,j⟩:=aI l;simp at hl;obtain rfl:=aQ j;obtain⟨bx,hbx,C⟩:=ld hl.1;have hv:=h.dw p;rw[A] at hv;obtain⟨_,S,c',g1,g2,g3,g4,base,cap,g5,g6,g7⟩:=bA hbx C hv.2;refine b8 (s:=Builtin.len_ c.argTypes o.type (c.args.map a.eval)) ?_ (bV h L (x:=.int .i64 n) ?_<|mkInt ⟨Int.le_trans aK g3,Int.le_trans hl.2 aK⟩) H
      .unfold execOp;simp only[F,resolve,g,invoke,builtin];rfl
      .rw[fU m,fU M,show Array.map a.eval [p].toArray=#[a.eval p] from bb,g5];simp[Builtin.len_,run_underlying (Aa O he).1,adn g3];rfl
     .exact absurd l cl
   | true =>
   have j:(match lenOf σ (dw σ p) with|some n=>Tree.ret (σ.bD o.dst<|.data (.int .i64) n)|none=>.fail).run=ab aY:=by rw[R] at l;exact l
   split at j
   .rename_i n hn;obtain rfl:=aQ j;obtain⟨l1,l2⟩:=Ut O h.ok (h.dw p) R hn;refine b8 (s:=Builtin.len_ c.argTypes o.type (c.args.map a.eval)) ?_ (bV h L ?_<|mkInt l2) H
    .unfold execOp;simp only[F,resolve,g,invoke,builtin];rfl
    .rw[fU m,fU M,show Array.map a.eval [p].toArray=#[a.eval p] from bb];exact l1
   .exact absurd j cl
  .rename_i s x t u A M;obtain⟨os,p,m,rfl,rfl⟩:=KL A;have key:(∃e,P.underlying u=ab (.slice e))\/P.underlying u=ab .string->(iX cx nb o.dst t (dw σ os) (dw σ p) σ).run=ab aY->o.wp P a w K Q:=by
    intro hk j;refine b8 (s:=Builtin.append_ c.argTypes o.type (c.args.map a.eval)) ?_ ?_ H
    .unfold execOp;simp only[F,resolve,g,invoke,builtin];rfl
    .rw[fU m,fU M,show Array.map a.eval [os,p].toArray=#[a.eval os,a.eval p] from bb];exact HA O h L hk j
   split at l
   .rename_i hu;exact key (.inr (O.T _ _ hu).str) l
   .rename_i e hu;obtain⟨eid,f1,_⟩:=(O.T _ _ hu).slice
    grind
   .exact absurd l cl
  .rename_i t x tt tx A M;obtain⟨X,p,m,rfl,rfl⟩:=KL A;have key:(zd cx o.dst tt (dw σ X) (dw σ p) σ).run=ab aY->o.wp P a w K Q:=by
    intro j;refine b8 (s:=Builtin.copy_ c.argTypes o.type (c.args.map a.eval)) ?_ ?_ H
    .unfold execOp;simp only[F,resolve,g,invoke,builtin];rfl
    .rw[fU m,fU M,show Array.map a.eval [X,p].toArray=#[a.eval X,a.eval p] from bb];exact L4 O h L j
   split at l
   .grind
   .grind
   .exact absurd l cl
  .rename_i t tt A M;obtain⟨X,m,rfl⟩:=RM A;split at l
   .rename_i al2;refine b8 (s:=Builtin.clear_ c.argTypes o.type (c.args.map a.eval)) ?_ ?_ H
    .unfold execOp;simp only[F,resolve,g,invoke,builtin];rfl
    .rw[fU m,fU M,show Array.map a.eval [X].toArray=#[a.eval X] from bb,al2];exact J0 O h l
   .exact absurd l cl
  .rename_i x y A;obtain⟨p,oy,m,rfl,rfl⟩:=KL A;obtain⟨v,Y,j⟩:=bind_some l;obtain rfl:=aQ j;obtain⟨z,z1,z2⟩:=F0 (P:=P) (h.dw p) (h.dw oy) Y;refine b8 (s:=Builtin.min_ c.argTypes o.type (c.args.map a.eval)) ?_ (bV h L (x:=z) ?_ z2) H
   .unfold execOp;simp only[F,resolve,g,invoke,builtin];rfl
   .rw[fU m,show Array.map a.eval [p,oy].toArray=#[a.eval p,a.eval oy] from bb];simp at z1;simp[Builtin.min_,z1]
  .rename_i x y A;obtain⟨p,oy,m,rfl,rfl⟩:=KL A;obtain⟨v,Y,j⟩:=bind_some l;obtain rfl:=aQ j;obtain⟨z,z1,z2⟩:=F0 (P:=P) (h.dw p) (h.dw oy) Y;refine b8 (s:=Builtin.max_ c.argTypes o.type (c.args.map a.eval)) ?_ (bV h L ?_ z2) H
   .unfold execOp;simp only[F,resolve,g];rfl
   .rw[fU m];simp at z1;simp[Builtin.max_,z1]
  .exact absurd l cl
 .rename_i f g;split at l
  .rename_i fid D hf;obtain⟨U,j⟩:=aI l;have hv:=h.dw f;rw[hf] at hv;obtain⟨arr,v1,v2,v3⟩:=hv;obtain v1:=BH v1;have V:nr γ σ.mem w (D.map λb=>.ptr b.1 b.2 []) arr.toList:=by
    refine⟨by simpa using v2,λi v x W h2=>?_⟩;rw[Ep] at W;cases hi:D[i]? with
    | none=>rw[hi] at W;cases W
    | some bv =>
      rw[hi] at W;obtain rfl:=aQ W;have hl:=vL.1 U bv (eQ hi);obtain⟨bx,Y,C⟩:=ld hl;obtain⟨S,cap,g1,g2⟩:=bA Y C (v3 i bv.1 bv.2<|by rw[hi]);have A:x=.pointer (ab ⟨S,0,ah⟩):=by
       grind
      subst A;exact⟨⟨_,rfl,rfl⟩,bx,Y,DI C.symm,λ_=>⟨S,cap,g1,rfl⟩⟩
   have E:nr γ σ.mem w (c.args.toList.map (dw σ)++D.map λb=>.ptr b.1 b.2 []) (c.args.map a.eval++arr).toList:=by
    rw[Zq,ads];exact(Qe h).append V
   refine L1 ?_ (OI J Z h L E j H);unfold execOp;simp only[F,resolve,g,Deferred.ofValue,v1,invoke];simp
  .exact absurd l cl
 ·
  rename_i r name g;unfold s6 at l;split at l
  .rename_i cn hcn;split at l
   .rename_i x b5 A;obtain⟨y,hy,j⟩:=cm l;obtain rfl:=aQ j;have E:nr γ σ.mem w (dw σ r::c.args.toList.map (dw σ)) (a.eval r::(c.args.map a.eval).toList):=by
     rw[ads];exact Qe (ops:=r::c.args.toList) h
    obtain⟨γ1,s1,s2,s3⟩:=tJ h E A;obtain⟨f,u,e1,e2,e3⟩:=J.inv name cn hcn γ1.I w _ _ x y (λb o hi=>s1.ok.vz b o hi) s1.ok.Rz s3 hy;refine L1 ?_ ⟨e2,e3.mono λe w' hw=>?_⟩
    .rw[<-e1];unfold execOp;simp only[F,resolve,g];exact congrArg (λz:Sem Next=>z.run P w) (aa7 _ _ _)
    .obtain⟨v,I',W,h2,h3,h4,h5,h6⟩:=hw;refine⟨v,W,?_⟩;obtain⟨m1,m2⟩:=s1.ok.far (I':=I') h2 h3 h4 h5;refine H ⟨I',γ1.loc⟩ _ w' (s1.bD m2 m1 L<|h6.rep λ_ _ hi=>hi) ?_;cases o.dst<;>exact s2.trans m2
   .exact absurd l cl
  .exact absurd l cl
def Uu{I tid u}:∀{t a f},Den P t tid->Ub t u=ab ⟨a,f⟩ ->
  P.concrete u=true/\∀y c,bY w I a y c->bY w I t (f y) [.iface u<|cY a c]:=by
 intro t;induction t with
 | alt n a r m e =>
   intro b f i h;unfold Ub at h;obtain⟨l,o⟩:=i.rest;cases j:Nat.beq n u with
   | true =>
     rw[j] at h;obtain rfl:=iT j;cases h;exact⟨o,λy c k=>⟨l.adW i,c,rfl,k⟩⟩
   | false =>
     rw[j] at h;split at h
     .rename_i v g p;cases h;obtain⟨q,s⟩:=e l p;exact⟨q,λy c k=>s y c k⟩
     .cases h
 | _=>intro b f i h;cases h
def agO{tid u t a f}(c:Den P t tid)(h:Ub t u=ab ⟨a,f⟩):t.isAgg=false:=by
 cases t with
 | alt n b r=>simp only[Den,e7,gy] at c;exact(Ty.LD c.2).2
 | _=>cases h
def J1(m:fS P cx){ty u x}(h:dJ B N γ σ a w)(n:∀k,d=ab k->k<N)(c:(sZ cx d ty u (dw σ x) σ).run=ab aY) :
  oM P B N γ σ a w d (Instr.makeInterface u<|a.eval x) aY:=by
 unfold sZ at c;split at c
 .rename_i t o;have e:=m.T _ _ o;split at c
  .rename_i b f j;split at c
   .rename_i y b5 p;obtain rfl:=aQ c;obtain⟨g,q,r,l,s,v⟩:=nY h (h.dw x) p;obtain⟨z,A⟩:=Uu e j;have i:a.eval x=cY b l:=by simpa using v
    have C:=agO e j;refine⟨.iface u _,w,g,run_makeInterface w u _ z,q.wN n ⟨_,A y l s,?_⟩,?_⟩
    .rw[i];unfold cY
     grind
    .cases d<;>exact r
   .exact absurd c cl
  .exact absurd c cl
 .exact absurd c cl
def Uv{o s K Q}(c:execOp a.eval o=(do s;pure .skip))(b:o.dst=ah)
  (h:∃w' bJ,s.run P w=.ok () w'/\dJ B N bJ aY a w'/\Ext B γ σ.mem w bJ aY.mem w') (e:FY B N γ σ a w o.dst aY K):o.wp P a w K Q:=by
 obtain⟨w',bJ,f,g,i⟩:=h;unfold Oper.wp;rw[c];simp only[Sem.run_bind,f];exact e bJ _ w' (by rw[b];exact g) i
def xX{d k}(h:ownRow bf d=ab k):d=ab k:=by
 unfold ownRow at h
 grind
def EC{d k}(h:Ua bf d=ab k):d=ab k/\dA bf k=true:=by
 unfold Ua at h
 grind
def L7(A:fS P cx)(O:qX P B.G cx)(R:xV P B.G inl){o:Oper}(h:dJ B N γ σ a w)(r:∀k,o.dst=ab k->k<N)
  (g:(rF cx nb bf inl o σ).run=ab aY) {K Q} (C:FY B N γ σ a w o.dst aY K):o.wp P a w K Q:=by
 unfold rF at g;split at g
 case h_1 x j=>exact b8 (by simp only[execOp,j];rfl) (zj A h r g) C
 case h_2 x j=>exact b8 (by simp only[execOp,j];rfl) (zj A h r g) C
 case h_3 c x y j=>exact b8 (by simp only[execOp,j];simp) (LM h r g) C
 case h_4 elem j =>
  split at g
  .rename_i k t D F;rw[D] at r;refine b8 (s:=Instr.alloc elem true (.tuple #[])) (by simp only[execOp,j]) ?_ C;rw[D];exact JV A h (r k rfl) F g
  .rename_i k D F;rw[D] at r;refine b8 (s:=Instr.alloc elem true (.tuple #[])) (by simp only[execOp,j]) ?_ C;rw[D];split at g
   .rename_i fs X;exact JU A h (r k rfl) X g
   .obtain⟨Y,m⟩:=aI g;exact JT A h (r k rfl) Y m
  .exact absurd g cl
 case h_5 elem x j =>
  unfold Fy at g;split at g
  .exact absurd g cl
  .exact absurd g cl
  .rename_i k D Y h2;rw[D] at r;refine b8 (s:=Instr.box elem (a.eval x)) (by simp only[execOp,j]) ?_ C;rw[D];split at g
   .exact Oz h (r k rfl) Y h2 g
   .exact aa3 h (r k rfl) Y h2 g
  .exact absurd g cl
 case h_6 t parts j =>
  refine b8 (s:=Instr.build t (parts.map λ(i,x)=>(i,a.eval x))) (by simp only[execOp,j]) ?_ C;split at g
  .rename_i u v F;split at g
   .rename_i x b5 E;obtain rfl:=aQ g;exact Ey A h r F E
   .exact absurd g cl
  .rename_i n e F;split at g
   .rename_i l b5 E;obtain rfl:=aQ g;exact FU A h r F E
   .exact absurd g cl
  .split at g
   .rename_i fs X;split at g
    .rename_i z0 S;split at g
     .rename_i p q E;obtain rfl:=aQ g;exact JX A h r X S E
     .rename_i u E;obtain rfl:=aQ g;exact Hv A h r X S E
     .exact absurd g cl
    .exact absurd g cl
   .exact absurd g cl
  .exact absurd g cl
 case h_7 t n parts j =>
  refine b8 (s:=Instr.buildSlice t n (parts.map λ(i,x)=>(i,a.eval x))) (by simp only[execOp,j]) ?_ C;split at g
  .rename_i e F;split at g
   .rename_i k T I;obtain⟨D,_⟩:=EC T;have hp:parts=#[]:=by simpa using I
    rw[D,hp];rw[D] at r;rw[Array.map_empty];exact Hy A h (r k rfl) F g
   .obtain⟨Z,m⟩:=aI g;split at m
    .rename_i l b5 E;split at m
     .rename_i k D;have hk':=xX D;rw[hk'] at r⊢;exact LS A h (r k rfl) F Z E m
     .obtain rfl:=aQ m;exact Hw A h r F Z E
    .exact absurd m cl
  .exact OB A h r g
  .exact absurd g cl
 case h_8 t x j=>exact b8 (by simp only[execOp,j]) (LP A h r g) C
 case h_9 t x y j =>
  split at g
  .rename_i D;exact Uv (by simp only[execOp,j]) D (JS A h g) C
  .exact absurd g cl
 case h_10 x j =>
  have hv:=h.dw x;have fin:∀{v y},a.eval x=y->execOp a.eval o=(do pure<|.value (<-pure y))->cM γ σ.mem w v .val [y]->aY=σ.bD o.dst v->o.wp P a w K Q:=by
   intro v y he hs hr0 hσ;subst hσ;exact b8 hs (bV h r rfl hr0) C
  split at g
  .rename_i b aU p J;rw[J] at hv;obtain⟨hl,m⟩:=aI g;obtain⟨bx,E,U⟩:=ld hl;obtain⟨blk,cap,H,M⟩:=bA E U hv.2;have M:=BH M;rw[M] at hv;exact fin M (by simp only[execOp,j,M];rfl) hv (aQ m).symm
  .rename_i t y J;rw[J] at hv;obtain⟨blk,off,cs,H,M,g3⟩:=id hv;have H:=BH H;rw[H] at hv;exact fin H (by simp only[execOp,j,H];rfl) hv (aQ g).symm
  .rename_i f c J;rw[J] at hv;obtain⟨arr,H,M,g3⟩:=id hv;have H:=BH H;rw[H] at hv;exact fin H (by simp only[execOp,j,H];rfl) hv (aQ g).symm
  .exact absurd g cl
 case h_11 op xt x y pos j =>
  obtain⟨v,E,m⟩:=bind_some g;obtain rfl:=aQ m;obtain⟨z,V,W⟩:=Xb A (h.dw x) (h.dw y) E;refine b8 (s:=ir op xt x y _ _) (by simp only[execOp,j,ir]) (bV h r V W) C
 case h_12 op ty x j =>
  obtain⟨v,E,m⟩:=bind_some g;obtain rfl:=aQ m;obtain⟨z,V,W⟩:=ad0 (h.dw x) E;exact b8 (by simp only[execOp,j]) (bV h r V W) C
 case h_13 src dst x j=>exact b8 (by simp only[execOp,j]) (FW A h r g) C
 case h_14 f first aj1 j =>
  split at g
  .rename_i cs L hcs;obtain rfl:=aQ g;refine b8 ?_ (LQ h r hcs) C;have:first=#[]:=by simpa using L
   simp only[execOp,j,this,show Array.map a.eval #[]=#[] from bb]
  .exact absurd g cl
 case h_15 t x lo hi j=>exact b8 (by simp only[execOp,j];rfl) (JQ A h r g) C
 case h_16 s x k j=>exact b8 (by simp only[execOp,j]) (Dw A h r g) C
 case h_17 xt x k j =>
  have hv:=h.dw x;split at g
  .rename_i u y J;rw[J] at hv;obtain⟨F,m⟩:=aI g;split at m
   .rename_i off v hf;obtain rfl:=aQ m;obtain⟨z,V,W⟩:=Ul A (jI F) hv hf;exact b8 (by simp only[execOp,j]) (bV h r V W) C
   .exact absurd m cl
  .exact absurd g cl
 case h_18 t x i j =>
  split at g
  .rename_i ki n hi;have hv:=h.dw i;rw[hi] at hv;obtain⟨ei,_⟩:=vb hv;refine b8 (s:=Instr.indexAt t (a.eval x) (a.eval i)) (by simp only[execOp,j]) ?_ C;rw[ei];cases hm:dA bf 5000000 with
   | true=>rw[hm] at g;exact JO A h r g
   | false=>rw[hm] at g;exact vA A h r g
  .exact absurd g cl
 case h_19 t x i j =>
  split at g
  .rename_i ki n hi;have hv:=h.dw i;rw[hi] at hv;obtain⟨ei,_⟩:=vb hv;refine b8 (s:=Instr.index t (a.eval x) (a.eval i)) (by simp only[execOp,j]) ?_ C;rw[ei];exact JP A h r g
  .exact absurd g cl
 case h_20 t l c j =>
  split at g
  .rename_i k e kl ln kc cn D F hl hcc;rw[D] at r;obtain⟨ZL,m⟩:=cO g;obtain⟨hf,hr3⟩:=cO m;refine b8 (s:=Instr.makeSlice t (a.eval l) (a.eval c)) (by simp only[execOp,j]) ?_ C;rw[D];exact JY A h (r k rfl) F hl hcc ZL hf hr3
  .exact absurd g cl
 case h_21 t k j =>
  split at g
  .rename_i vs J;split at g
   .rename_i v Z;obtain rfl:=aQ g;exact b8 (by simp only[execOp,j]) (OA h r J Z) C
   .exact absurd g cl
  .exact absurd g cl
 case h_22 c j=>exact Xl A O R j h r g C
 case h_23 u x j=>exact b8 (by simp only[execOp,j]) (J1 A h r g) C
 case h_24=>exact absurd g cl
end
end Go.Ge
namespace Go.Ge
open RowKit
def b7(f c:St):Prop:=∀b e,f.mem b=ab e->e.lk=true->c.mem b=ab e
def b7.refl σ:b7 σ σ:=λ_ _ h _=>h
def b7.trans{σ aY c}(h:b7 σ aY)(k:b7 aY c):b7 σ c:=λb bx f e=>k b bx (h b bx f e) e
def b7.put σ d v:b7 σ (σ.put d v):=λ_ _ h _=>h
def b7.bD σ d v:b7 σ (σ.bD d v):=by cases d<;>exact λ_ _ h _=>h
def b7.aed{σ aY}(h:aY.mem=σ.mem):b7 σ aY:=λb e c _=>by rw[h];exact c
def jU{σ b j}(h:∀f,σ.mem b=ab f->f.lk=false):b7 σ (σ.cg b j):=λc cx g i=>by
 by_cases e:c=b
 .subst e;rw[h cx g] at i;cases i
 .rw[wP,bg _ e];exact g
def n0{β σ b val tid buf}{k:Nat->St->Tree β}{y}(h:(σ.bF b val tid buf k).run=ab y) :
  ∃aU,b7 σ (σ.cg b { val,tid,buf,ro:=false,lk:=false,aU })/\(k aU<|σ.cg b { val,tid,buf,ro:=false,lk:=false,aU }).run=ab y:=by
 unfold St.bF at h;split at h
 .rename_i i e;cases f:i.lk with
  | true=>rw[f] at h;cases h
  | false =>
    rw[f] at h;exact⟨i.aU+1,jU (λg c=>by rw[e] at c;obtain rfl:=aQ c;exact f),h⟩
 .rename_i e;exact⟨0,jU (λg c=>by rw[e] at c;cases c),h⟩
def I4{σ aY b}(h:freeze σ b=ab aY):b7 σ aY:=by
 unfold freeze at h;split at h
 .rename_i f i;cases c:f.ro with
  | true=>simp only[c,zS,Lf] at h;rw[<-h];apply b7.refl
  | false =>
    cases e:f.lk with
    | true=>simp[c,e] at h
    | false =>
      simp only[c,e,Fu,Lf] at h;rw[<-h];exact jU λj g=>by rw[i] at g;obtain rfl:=aQ g;exact e
 .cases h
def RN:∀{v σ aY},jq σ v=ab aY->b7 σ aY:=by
 intro v;induction v with
 | mix p q c e =>
   intro σ aY h;obtain⟨b5,f,g⟩:=xT h;exact(c f).trans (e g)
 | whole b aU=>intro σ aY h;exact I4 h
 | part b aU lo n=>intro σ aY h;exact I4 h
 | _=>intro σ aY h;obtain rfl:=aQ h;apply b7.refl
def qY{t x v σ aY}(h:BM σ t v=ab (x,aY)):b7 σ aY:=by
 unfold BM at h;split at h
 .split at h
  .obtain⟨_,rfl⟩:=cd (aQ h);apply b7.refl
  .cases h
 .split at h
  .rename_i y b5 c b;obtain⟨_,rfl⟩:=cd (aQ h);exact RN b
  .cases h
def rP:∀{A x vs σ aY},lY σ A vs=ab (x,aY)->b7 σ aY:=by
 intro A;induction A with
 | pair t r e c =>
   intro x vs σ aY b;cases vs with
   | nil=>cases b
   | cons v vs =>
     simp only[lY] at b;split at b
     .rename_i p b5 f;split at b
      .rename_i q cP g;obtain⟨_,rfl⟩:=cd (aQ b);exact(qY f).trans (c g)
      .cases b
     .cases b
 | unit =>
   intro x vs σ aY b;cases vs with
   | nil=>obtain⟨_,rfl⟩:=cd (aQ b);apply b7.refl
   | cons v vs=>cases b
 | _=>intro x vs σ aY b;cases vs<;>cases b
def J2{t}:∀{parts x b σ aY},gY σ t x parts=ab (b,aY)->b7 σ aY:=by
 intro parts;induction parts with
 | nil=>intro x b σ aY h;obtain⟨_,rfl⟩:=cd (aQ h);apply b7.refl
 | cons p r c =>
   intro x b σ aY h;simp only[gY] at h;split at h
   .split at h
    .rename_i e;split at h
     .exact(qY e).trans (c h)
     .cases h
    .cases h
   .cases h
def wS{e}:∀{parts l c σ aY},fP σ e l parts=ab (c,aY)->b7 σ aY:=by
 intro parts;induction parts with
 | nil=>intro x i σ aY h;obtain⟨_,rfl⟩:=cd (aQ h);apply b7.refl
 | cons p r f =>
   obtain⟨k,o⟩:=p;intro l c σ aY h;simp only[fP] at h;split at h
   .rename_i g;cases b:Nat.blt k l.length with
    | false=>rw[b] at h;cases h
    | true=>rw[b] at h;exact(qY g).trans (f h)
   .cases h
def F1{b aU p fit u σ aY}(e:(storeAt b aU p fit u σ).run=ab aY):b7 σ aY:=by
 unfold storeAt at e;split at e
 case h_2=>exact absurd e cl
 rename_i q m;obtain⟨j,f⟩:=aI e;simp at j;obtain⟨n,r,g⟩:=bind_some f;obtain⟨k,h⟩:=aI g;obtain⟨c,s,i⟩:=bind_some h;obtain rfl:=aQ i;exact jU λo l=>by rw[m] at l;obtain rfl:=aQ l;exact j.1.2
def RO{b aU p n u σ aY}(e:(tD b aU p n u σ).run=ab aY):b7 σ aY:=by
 unfold tD at e;split at e
 case h_2=>exact absurd e cl
 rename_i t o;obtain⟨k,f⟩:=aI e;simp at k;obtain⟨q,v,g⟩:=bind_some f;obtain⟨l,h⟩:=aI g;obtain⟨c,x,i⟩:=bind_some h;obtain⟨r,j⟩:=aI i;obtain rfl:=aQ j;exact jU λs m=>by rw[o] at m;obtain rfl:=aQ m;exact k.1.1.1.2
def L8{cx bf ty x y σ aY}(e:(mV cx bf ty x y σ).run=ab aY):b7 σ aY:=by
 unfold mV at e;split at e
 case h_2=>exact absurd e cl
 split at e
 case h_2=>exact absurd e cl
 obtain⟨g,f⟩:=aI e;obtain⟨i,l,c⟩:=bind_some f;split at c
 .rename_i u _;obtain⟨j,b⟩:=aI c;cases h:dA bf 8000000&&adP u y with
  | true=>rw[h] at b;exact RO b
  | false =>
  rw[h] at b;split at b
  .rename_i k;exact(qY k).trans (F1 b)
  .exact absurd b cl
 .obtain⟨j,b⟩:=aI c;exact F1 b
def A6{cx nb d ty s x σ aY}(b:(iX cx nb d ty s x σ).run=ab aY):b7 σ aY:=by
 unfold iX at b;split at b
 case h_2=>exact absurd b cl
 split at b
 case h_2=>exact absurd b cl
 split at b
 .obtain⟨h,c⟩:=cO b;obtain⟨i,j,k⟩:=n0 c;obtain rfl:=aQ k;exact j.trans (b7.put _ _ _)
 .split at b
  case h_2=>exact absurd b cl
  rename_i o l m p;obtain⟨e,f⟩:=Ac b;obtain⟨h,c⟩:=cO f;obtain rfl:=aQ c;exact(jU λn g=>by rw[m] at g;obtain rfl:=aQ g;exact((Ou.1 e).1)).trans (b7.put _ _ _)
 .exact absurd b cl
def yG{e m b aU q chk lo σ aY}(i:(la e m b aU q chk lo σ).run=ab aY):b7 σ aY:=by
 unfold la at i;split at i
 case h_2=>exact absurd i cl
 rename_i r n;obtain⟨k,f⟩:=aI i;simp at k;have fin:∀{u6},b7 σ (σ.cg b u6):=λ{u6}=>jU λo l=>by rw[n] at l;obtain rfl:=aQ l;exact k.1.2
 split at f
 .split at f
  .split at f
   .obtain rfl:=aQ f;exact fin
   .exact absurd f cl
  .exact absurd f cl
 .obtain⟨p,_,g⟩:=bind_some f;split at g
  .obtain⟨_,h⟩:=aI g;split at h
   .obtain⟨c,_,j⟩:=bind_some h;obtain rfl:=aQ j;exact fin
   .exact absurd h cl
  .exact absurd g cl
def I5{e g t σ r}(b:(Hl e g t σ).run=ab r):b7 σ r.2:=by
 unfold Hl at b;split at b
 .obtain⟨b5,c,f⟩:=bind_some b;obtain rfl:=aQ f;exact yG c
 .split at b
  .obtain⟨b5,c,f⟩:=bind_some b;obtain rfl:=aQ f;exact yG c
  .exact absurd b cl
 .obtain⟨b5,c,f⟩:=bind_some b;obtain rfl:=aQ f;exact yG c
 .exact absurd b cl
def Xm{σ}:∀{ps A U vs x u ns},tE σ ps A U vs=ab (x,u,ns)->∀b∈ns,∀f,σ.mem b=ab f->f.lk=false:=by
 intro ps;induction ps with
 | nil =>
   intro A U vs x u ns h;cases A<;>first|(cases h;done)|skip
   cases U<;>first|(cases h;done)|skip
   cases vs with
   | cons v r=>cases h
   | nil =>
     obtain⟨_,q⟩:=cd (aQ h);obtain⟨_,rfl⟩:=cd q;intro b j;cases j
 | cons p ps s =>
   intro A U vs x u ns h;cases p with
   | false =>
     cases A<;>first|(cases h;done)|skip
     cases vs with
     | nil=>cases h
     | cons v r =>
       simp only[tE] at h;split at h
       .rename_i k;obtain⟨_,q⟩:=cd (aQ h);obtain⟨_,rfl⟩:=cd q;exact s k
       .cases h
   | true =>
     cases U<;>first|(cases h;done)|skip
     cases vs with
     | nil=>cases h
     | cons t r =>
     cases t<;>first|(cases h;done)|skip
     rename_i b l m;cases m with
     | cons _ _=>cases h
     | nil =>
     simp only[tE] at h;split at h
     case h_2=>cases h
     rename_i f j;cases e:(Nat.beq f.aU l&&!f.buf&&!f.lk&&!f.ro&&Nat.beq f.tid 0) with
     | false=>rw[e] at h;cases h
     | true =>
       rw[e] at h;simp at e;split at h
       case h_2=>cases h
       rename_i y z C n D k;cases i:dA n b with
       | true=>rw[i] at h;cases h
       | false =>
         rw[i] at h;obtain⟨_,q⟩:=cd (aQ h);obtain⟨_,rfl⟩:=cd q;intro c o cx g;rcases lW.1 o with rfl|o
         .rw[j] at g;obtain rfl:=aQ g;exact e.1.1.2
         .exact s k c o cx g
def Xn:∀{U u ns c v},rC U u ns c=ab v->c∈ns:=by
 intro U;induction U with
 | pair t U g e =>
   intro u ns c v h;cases ns with
   | nil=>cases h
   | cons b r =>
     simp only[rC] at h;cases f:Nat.beq c b with
     | true=>obtain rfl:=iT f;exact pI ..
     | false=>rw[f] at h;exact va _ (e h)
 | _=>intro u ns c v h;cases h
def RP{ps A U vs x u y ns σ}(h:tE σ ps A U vs=ab (x,u,ns)):b7 σ (zX U y ns σ):=λb e c f=>by
 rw[uD];cases hv:rC U y ns b with
 | none=>exact c
 | some v =>
   have:=Xm h b (Xn hv) e c;rw[f] at this;cases this
def RQ{s d f σ aY}(b:(CU s d f σ).run=ab aY):b7 σ aY:=by
 unfold CU at b;split at b
 .split at b
  case h_2=>cases b
  split at b
  case h_2=>cases b
  obtain⟨_,c⟩:=aI b;obtain rfl:=aQ c;apply b7.bD
 .split at b
  case h_2=>cases b
  split at b
  case h_2=>cases b
  obtain⟨_,c⟩:=aI b;split at c
  case h_2=>cases c
  rename_i k h;obtain⟨g,e⟩:=aI c;simp at g;split at e
  case h_2=>cases e
  obtain rfl:=aQ e;exact(jU λj i=>by rw[h] at i;obtain rfl:=aQ i;exact g.1.1.2).trans (b7.bD _ _ _)
 .cases b
def Xo{b aU}:∀{g j σ r},(mkObj b aU g j σ).run=ab r->b7 σ r.2:=by
 intro g;induction g with
 | nil=>intro j σ r c;obtain rfl:=aQ c;apply b7.refl
 | cons f q l =>
   intro j σ r c;cases f with
   | buf e m =>
     obtain⟨_,h⟩:=aI c;obtain⟨aU,n,o⟩:=n0 h;obtain⟨y,i,k⟩:=bind_some o;obtain rfl:=aQ k;have:=l i;exact n.trans this
   | _ =>
     obtain⟨y,i,k⟩:=bind_some c;obtain rfl:=aQ k;have:=l i;exact this
def RR{b}:∀{c j v σ r},(rE b c j v σ).run=ab r->b7 σ r.2:=by
 intro c;induction c with
 | nil =>
   intro j v σ r g;obtain rfl:=IZ g;apply b7.refl
 | cons f q k =>
   intro j v σ r g;rcases FT g with ⟨x,u,y,rfl,h,rfl⟩|⟨e,l,u,rfl,s,i⟩
   .have:=k h;exact this
   .obtain⟨m,n,o⟩:=n0 i;obtain⟨y,h,p⟩:=bind_some o;obtain rfl:=aQ p;have:=k h;exact n.trans this
def Uw{cx inl}(i:∀f h σ v aY,(inl f h σ).run=ab (v,aY)->b7 σ aY){d f h σ aY}
  (b:(yC cx inl d f h σ).run=ab aY):b7 σ aY:=by
 unfold yC at b;split at b
 .split at b
  .split at b
   .obtain⟨y,l,g⟩:=cm b;obtain rfl:=aQ g;apply b7.bD
   .exact absurd b cl
  .split at b
   .rename_i j;obtain⟨y,l,g⟩:=cm b;obtain rfl:=aQ g;exact(rP j).trans (b7.bD _ _ _)
   .exact absurd b cl
 .have e:((inl f h σ).bind λr=>.ret (r.2.bD d r.1):Tree St).run=ab aY->b7 σ aY:=by
   intro b;obtain⟨r,k,g⟩:=bind_some b;obtain rfl:=aQ g;exact(i _ _ _ _ _ k).trans (b7.bD _ _ _)
  split at b
  .exact RQ b
  split at b
  .rename_i c m;split at b
   .rename_i x u n j;obtain⟨y,l,g⟩:=cm b;obtain rfl:=aQ g;exact(RP j).trans (b7.bD _ _ _)
   .exact e b
  .exact e b
def L9{nb e d c σ aY}(b:(mZ nb e d c σ).run=ab aY):b7 σ aY:=by
 unfold mZ at b;split at b
 case h_2=>cases b
 split at b
 case h_2=>cases b
 rename_i f;obtain⟨_,b⟩:=aI b;obtain⟨_,b⟩:=cO b;obtain⟨g,h,i⟩:=n0 b;obtain rfl:=aQ i;exact((qY f).trans h).trans (b7.bD _ (ab _) _)
def RS{e A res spec d f σ aY}(c:(tF e A res spec d f σ).run=ab aY):b7 σ aY:=by
 unfold tF at c;split at c
 case h_2=>cases c
 split at c
 case h_2=>cases c
 rename_i h;split at c
 case h_2=>cases c
 rename_i b q u l i;obtain⟨v,_,c⟩:=cm c;obtain⟨r,m,n,j,s,o,_⟩:=uE i;have key:∀g,b7 _ (St.cg _ b g):=λg=>jU λt p=>by rw[r] at p;obtain rfl:=aQ p;exact j
 cases res with
 | true =>
   cases d with
   | none=>cases c
   | some k=>obtain rfl:=aQ c;exact((rP h).trans<|key _).trans (b7.bD _ (ab _) _)
 | false =>
   cases d with
   | none=>obtain⟨_,c⟩:=aI c;obtain rfl:=aQ c;exact((rP h).trans<|key _).trans (b7.bD _ ah _)
   | some k=>obtain⟨_,c⟩:=aI c;obtain rfl:=aQ c;exact((rP h).trans<|key _).trans (b7.bD _ _ _)
def RT{cx nb bf inl}(c:∀f b σ v aY,(inl f b σ).run=ab (v,aY)->b7 σ aY){d f b σ aY}
  (e:(vN cx nb bf inl d f b σ).run=ab aY):b7 σ aY:=by
 unfold vN at e;split at e
 .exact L9 e
 .exact RS e
 .exact Uw c e
end Go.Ge
namespace Go.Ge
open RowKit
def bq(b:St)(T:Tree St):Prop:=∀y,T.run=ab y->b7 b y
def bq.fail{σ}:bq σ .fail:=λy h=>by cases h
def bq.ret{σ aY}(h:b7 σ aY):bq σ (.ret aY):=λy b=>by obtain rfl:=aQ b;exact h
def bq.bif{σ c t}(h:bq σ t):bq σ (bif c then t else .fail):=λy b=>h y (aI b).2
def bq.jG{σ c t}(h:bq σ t):bq σ (.jG c t):=λy b=>h y (cO b).2
def bq.look{σ T}{o:Option T}{k}(h:∀x,bq σ (k x)):bq σ (.look o k):=λy b=>by obtain⟨x,_,c⟩:=cm b;exact h x y c
def bq.node{σ c t e}(h:bq σ t)(k:bq σ e):bq σ (.node c t e):=λy b=>by
 have:=gN b;cases c with
 | true=>exact h y this
 | false=>exact k y this
def bq.bind{σ α}{t:Tree α}{f}(h:∀x,t.run=ab x->bq σ (f x)):bq σ (t.bind f):=λy b=>by obtain⟨x,c,e⟩:=bind_some b;exact h x c y e
def bq.bF{σ b val tid buf d}{v:Nat->cB}:bq σ (σ.bF b val tid buf λc σ=>.ret (σ.put d<|v c)):=λy e=>by
 obtain⟨c,f,g⟩:=n0 e;obtain rfl:=aQ g;exact f.trans (b7.put _ _ _)
def Qg{p:Prop}(h:p:=by
 repeat' (first
  | exact bq.fail|exact bq.ret (b7.bD _ _ _)|exact bq.ret (b7.put _ _ _)|exact bq.bF
  | refine bq.bif ?_|refine bq.jG ?_|refine bq.look λ_=>?_|refine bq.node ?_ ?_|refine bq.bind λ_ _=>?_|split)):p:=h
section
variable {cx:Ctx} {nb:Nat} {bf:List Nat} {inl:Nat->List cB->St->Tree (cB×St)} {d:Option Nat} {σ:St}
def A7{ty v}:bq σ (km cx nb bf d ty v σ):=by
 unfold km;split
 .exact Qg
 .split
  .rename_i k e _;cases dA bf k with
   | true=>exact bq.bF
   | false=>exact bq.ret (b7.put _ _ _)
  .exact bq.ret (b7.bD _ _ _)
 .exact bq.ret (b7.bD _ _ _)
def OJ{c a b}:bq σ (pR d c a b σ):=by unfold pR;exact Qg
def OK{ty a}:bq σ (mA cx d ty a σ):=by unfold mA;exact Qg
def Ma{ty x lo hi}:bq σ (mW cx d ty x lo hi σ):=by unfold mW;exact Qg
def Xp{b aU i}:∀{m k},bq σ (Lu d b aU σ i m k):=by
 intro m;induction m with
 | zero=>exact bq.fail
 | succ m c=>exact bq.node (bq.ret<|b7.bD _ _ _) c
def wT{ty x i}:bq σ (eZ cx d ty x i σ):=by
 unfold eZ;split
 case h_6=>split
           .exact bq.bif Xp
           .exact bq.fail
 all_goals exact Qg
def Mb{ty x i}:bq σ (mX cx d ty x i σ):=by
 unfold mX;split
 .refine bq.bif ?_;split
  .exact bq.bif (bq.ret<|b7.bD _ _ _)
  .exact bq.fail
 .exact wT
def Mc{ty x i}:bq σ (mY cx d ty x i σ):=by unfold mY;exact Qg
def ED{s x k}:bq σ (fy cx d s x k σ):=by unfold fy;exact Qg
def HB{s t x}:bq σ (iD cx nb d s t x σ):=by unfold iD;exact Qg
def DN{ty t x}:bq σ (zd cx d ty t x σ):=by
 unfold zd;split
 .split
  .exact bq.fail
  .exact bq.bind λr b=>bq.ret ((I5 b).trans<|b7.bD _ _ _)
 .exact bq.fail
def Md{ty t}:bq σ (zf cx ty t σ):=by
 unfold zf;split
 .exact bq.bind λr b=>bq.ret (I5 b)
 .exact bq.fail
def J3{name args}:bq σ (s6 cx d name args σ):=by
 intro aY b;unfold s6 at b;split at b
 .split at b
  .rename_i e;obtain⟨y,f,c⟩:=cm b;obtain rfl:=aQ c;exact(rP e).trans (b7.bD _ _ _)
  .exact absurd b cl
 .exact absurd b cl
def Me{ty u x}:bq σ (sZ cx d ty u x σ):=by
 intro aY b;unfold sZ at b;split at b
 .split at b
  .split at b
   .rename_i c;obtain rfl:=aQ b;exact(qY c).trans (b7.bD _ _ _)
   .exact absurd b cl
  .exact absurd b cl
 .exact absurd b cl
def OL(b:∀f e σ v aY,(inl f e σ).run=ab (v,aY)->b7 σ aY){ty c}:bq σ (wL cx nb bf inl d ty c σ):=by
 unfold wL;split
 .split
  .exact Qg
  .split
   .exact λy g=>A6 g
   .exact λy g=>A6 g
   .exact bq.fail
  .split
   .exact DN
   .exact DN
   .exact bq.fail
  .split
   .exact Md
   .exact bq.fail
  .exact Qg
  .exact Qg
  .exact bq.fail
 .split
  .exact bq.bif λy g=>RT b g
  .exact bq.fail
 .exact J3
def B2(e:∀f g σ v aY,(inl f g σ).run=ab (v,aY)->b7 σ aY){o}:bq σ (rF cx nb bf inl o σ):=by
 unfold rF;split
 case h_1=>exact A7
 case h_2=>exact A7
 case h_3=>exact OJ
 case h_4 =>
  split
  .unfold wC;split
   .refine bq.bif λy b=>?_;obtain⟨i,j,k⟩:=n0 b;exact j.trans (bq.bF y k)
   .exact bq.bF
  .split
   .refine bq.bind λr h=>?_;exact λy b=>(Xo h).trans (bq.bF y b)
   .exact bq.bif bq.bF
  .exact bq.fail
 case h_5 =>
  unfold Fy;split
  .exact bq.fail
  .exact bq.fail
  .split
   .refine bq.bind λr h=>?_;exact λy b=>(RR h).trans (bq.bF y b)
   .exact bq.bF
  .exact bq.fail
 case h_6 =>
  split
  .split
   .rename_i c;exact bq.ret ((J2 c).trans<|b7.bD _ _ _)
   .exact bq.fail
  .split
   .rename_i c;exact bq.ret ((wS c).trans<|b7.bD _ _ _)
   .exact bq.fail
  .exact Qg
  .exact bq.fail
 case h_7 =>
  split
  .split
   .exact bq.bF
   .refine bq.bif ?_;split
    .rename_i c;split
     .exact λy b=>(wS c).trans (bq.bF _ b)
     .exact bq.ret ((wS c).trans<|b7.bD _ _ _)
    .exact bq.fail
  .unfold CV;exact Qg
  .exact bq.fail
 case h_8=>exact OK
 case h_9=>split
           .exact λy b=>L8 b
           .exact bq.fail
 case h_10=>exact Qg
 case h_11=>exact Qg
 case h_12=>exact Qg
 case h_13=>exact HB
 case h_14=>exact Qg
 case h_15=>exact Ma
 case h_16=>exact ED
 case h_17=>exact Qg
 case h_18=>split
            .cases dA bf 5000000 with
             | true=>exact Mb
             | false=>exact wT
            .exact bq.fail
 case h_19=>split
            .exact Mc
            .exact bq.fail
 case h_20=>exact Qg
 case h_21=>exact Qg
 case h_22=>exact OL e
 case h_23=>exact Me
 case h_24=>exact bq.fail
end
end Go.Ge
namespace Go.Ge
open RowKit
def nU.shrink{mem cT}(i:∀b c,mem b=ab c->cT b=ab { c with lk:=true }){b aU j K}(k:nU mem b aU j)(h:nU cT b aU K)
  (l:∀c,K { c with lk:=true }->K c):nU mem b aU K:=by
 obtain⟨c,f,m,_⟩:=k;obtain⟨n,g,p,o⟩:=h;rw[i b c f] at g;obtain rfl:=aQ g;exact⟨c,f,m,λe=>l c (o e)⟩
def cM.shrink{γ bJ mem cT w w'}(g:∀b G,mem b=ab G->cT b=ab { G with lk:=true }):∀{v m us vs},
  cM γ mem w v m us->cM bJ cT w' v m vs->cM bJ mem w' v m vs:=by
 intro v;induction v with
 | undef=>intro m us vs _ r;cases m<;>exact r
 | data t x=>intro m us vs _ r;cases m<;>exact r
 | pQ=>intro m us vs _ r;cases m<;>exact r
 | uy=>intro m us vs _ r;cases m<;>exact r
 | cell t x=>intro m us vs _ r;cases m<;>exact r
 | nl=>intro m us vs _ r;cases m<;>exact r
 | uz=>intro m us vs _ r;cases m<;>exact r
 | xO b aU =>
   intro m us vs c r;cases m with
   | many=>exact r
   | cells=>exact⟨r.1,c.2.shrink g r.2 λ_ k=>k⟩
   | val=>exact⟨r.1,c.2.shrink g r.2 λ_ k=>k⟩
 | ptr b aU p =>
   intro m us vs c r;cases m with
   | many=>exact r
   | cells=>exact⟨r.1,c.2.shrink g r.2 λ_ k=>k⟩
   | val=>exact⟨r.1,c.2.shrink g r.2 λ_ k=>k⟩
 | whole b aU =>
   intro m us vs c r;cases m with
   | many=>exact r
   | cells=>exact⟨r.1,c.2.shrink g r.2 λ_ k=>k⟩
   | val=>exact⟨r.1,c.2.shrink g r.2 λ_ k=>k⟩
 | part b aU lo n =>
   intro m us vs c r;cases m with
   | many=>exact r
   | cells=>exact⟨r.1,c.2.shrink g r.2 λ_ k=>k⟩
   | val=>exact⟨r.1,c.2.shrink g r.2 λ_ k=>k⟩
 | win b aU q e k lo n =>
   intro m us vs c r;cases m with
   | many=>exact r
   | cells=>exact⟨r.1,c.2.shrink g r.2 λ_ k=>k⟩
   | val=>exact⟨r.1,c.2.shrink g r.2 λ_ k=>k⟩
 | fn f H =>
   intro m us vs c r;cases m with
   | many=>exact r
   | cells=>obtain⟨_,_,_,s⟩:=c;obtain⟨h,j,l,F⟩:=r;exact⟨h,j,l,λi b aU z=>(s i b aU z).shrink g (F i b aU z) λ_ k=>k⟩
   | val=>obtain⟨_,_,_,s⟩:=c;obtain⟨h,j,l,F⟩:=r;exact⟨h,j,l,λi b aU z=>(s i b aU z).shrink g (F i b aU z) λ_ k=>k⟩
 | mix a b o y =>
   intro m us vs c r;cases m with
   | cells=>obtain⟨_,_,_,A,C⟩:=c;obtain⟨D,E,c,j,l⟩:=r;exact⟨D,E,c,o A j,y C l⟩
   | val=>obtain⟨_,_,_,A,C⟩:=c;obtain⟨D,E,c,j,l⟩:=r;exact⟨D,E,c,o A j,y C l⟩
   | many=>obtain⟨_,_,_,A,C⟩:=c;obtain⟨D,E,c,j,l⟩:=r;exact⟨D,E,c,o A j,y C l⟩
 | BF u I =>
   intro m us vs c r;cases m with
   | val=>obtain⟨_,_,s⟩:=c;obtain⟨h,j,l⟩:=r;exact⟨h,j,I s l⟩
   | cells=>exact r
   | many=>exact r
def bM.unlock{B γ bJ mem cT w w'}(h:bM B γ mem w)(p:∀b e,mem b=ab e->cT b=ab { e with lk:=true })
  (m:bM B bJ cT w') (q:Ext B γ (λi=>match mem i with|some b=>ab { b with lk:=true }|none=>ah) w bJ cT w'):bM B bJ mem w'/\Ext B γ mem w bJ mem w':=by
 have r:∀b e,mem b=ab e->bJ.loc b=γ.loc b:=by
  intro b e f;obtain⟨u,k1,k2,k3⟩:=q.boxes b { e with lk:=true } (by simp[f]);rw[p b e f] at k1;obtain rfl:=aQ k1;exact(k3 rfl).1
 have n:∀b,mem b≠ah->cT b≠none:=by
  intro b f;cases t:mem b with
  | none=>exact absurd t f
  | some e=>rw[p b e t];simp
 refine⟨?_,⟨q.below,q.I,q.rM,q.cells,λb e f=>⟨e,f,cp _,λ_=>⟨r b e f,rfl,rfl⟩⟩⟩⟩;exact
  { dv:=m.dv
    base:=m.base
    boxes:=λb e f=>by
     have j:=h.boxes b e f;have o:=m.boxes b _ (p b e f);unfold fj at j o⊢;cases l:e.buf with
     | true=>rw[l] at o;exact o
     | false =>
       rw[l] at j o;obtain⟨_,_,_,_,_,_,_,_,_,v⟩:=j;obtain⟨g,cap,cur,tid,fr,k1,k2,k3,agH,x⟩:=o;exact⟨g,cap,cur,tid,fr,k1,k2,k3,agH,v.shrink p x⟩
    inj:=λb c g k y f z j o=>m.inj b c g k y (n b f) (n c z) j o
    fresh:=λb g k f j=>m.fresh b g k (n b f) j
    vz:=m.vz
    sep:=λb e g k s f j A=>by
     have:=m.sep b _ g k s (p b e f) j A;exact this }
def Ext.js{B γ}{c:St}{w}:Ext B γ c.mem w γ c.js.mem w where
 below:=wE.refl _ _
 I:=λ_ _ h=>h
 rM:=λ_ _ h=>.inl h
 cells:=λ_ _ _=>rfl
 boxes:=λb e f=>⟨{ e with lk:=true },by simp[St.js,f],cp _,λ_=>⟨rfl,rfl,rfl⟩⟩
def bM.js{B γ}{j:St}{w}(h:bM B γ j.mem w):bM B γ j.js.mem w:=by
 have inv:∀{b l},j.js.mem b=ab l->∃e,j.mem b=ab e/\l={ e with lk:=true }:=by
  intro b l f;simp only[St.js] at f;split at f
  .rename_i e h0;exact⟨e,h0,(aQ f).symm⟩
  .cases f
 have i:∀{b},j.js.mem b≠ah->j.mem b≠none:=by
  intro b f o;apply f;simp[St.js,o]
 exact
  { dv:=h.dv
    base:=h.base
    boxes:=λb l f=>by
     obtain⟨e,h0,rfl⟩:=inv f;have:=(h.boxes b e h0).keep (Ext.js (B:=B)) rfl (λ_ _ _=>rfl);exact this
    inj:=λb c g k p f q m r=>h.inj b c g k p (i f) (i q) m r
    fresh:=λb g k f m=>h.fresh b g k (i f) m
    vz:=h.vz
    sep:=λb l g k n f m s=>by
     obtain⟨e,h0,rfl⟩:=inv f;exact h.sep b e g k n h0 m s }
def dJ.js{B N γ σ a w}(h:dJ B N γ σ a w):dJ B N γ σ.js a w where
 br:=λt=>(h.br t).ext (Ext.js (B:=B))
 size:=h.size
 defers:=h.defers
 ok:=h.ok.js
def RU{e f:St}(h:b7 e.js f):∀b c,e.mem b=ab c->f.mem b=ab { c with lk:=true }:=λb c g=>h b _ (by simp[St.js,g]) rfl
end Go.Ge
